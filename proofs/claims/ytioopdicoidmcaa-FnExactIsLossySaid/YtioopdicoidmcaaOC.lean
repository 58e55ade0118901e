/- A small language, its meaning on data, a check, and why the check is sound: part 3. -/
import Derived.Test.YtioopdicoidmcaaOB
import Derived.Orders
set_option linter.all false
/- Each operation, by itself: append. -/
set_option linter.unusedVariables false
namespace Go.Opt
open Go.RowKit

section
variable {P : Program} {F : Frm} {s : SS} {σ : S} {a : Act} {w : World} {g : Gh} {Φ : Cl'} {G : Nat → Option Sg} {ro : List Nat} {gd : Option (Nat × Bool)} {σ1 : S} {s1 : SS}

theorem fps_flat {w : World} : ∀ {vs : List Value} {cs : List C}, (∀ c ∈ cs, c.isSl = false) → fps w vs cs = []
  | [], _, _ => rfl
  | _ :: _, [], _ => rfl
  | v :: vs, c :: cs, h => by
    simp only [fps]
    rw [fp_flat (h c (by simp)), fps_flat fun c' hc => h c' (by simp [hc])]
    rfl

theorem flatRows_fps {w : World} {vs : List Value} {rows : List (List C)} (h : flatRows rows = true) : fps w vs rows.flatten = [] := by
  refine fps_flat fun c hc => ?_
  obtain ⟨row, hr, hcr⟩ := List.mem_flatten.1 hc
  simp only [flatRows, List.all_eq_true] at h
  have := h row hr
  simp only [flatRow, List.all_eq_true, Bool.not_eq_true'] at this
  exact this c hcr

theorem kill_L (s : SS) (e0 : Nat) (K : List Nat) (he : e0 ∉ K) (d : Option Nat) (m : M) (e : Nat) : ((({ s with L := upd s.L e0 true, U := upd s.U e0 true } : SS).kill K).put d m).L e = true ↔ e = e0 ∨ (s.L e = true ∧ e ∉ K) := by
  have : ((({ s with L := upd s.L e0 true, U := upd s.U e0 true } : SS).kill K).put d m).L e = (upd s.L e0 true e && !K.contains e) := by cases d <;> rfl
  rw [this]
  by_cases h : e = e0
  · subst h; simp [upd_same, he]
  · simp [upd_ne _ _ h, h]

/-- What a slice gives to an append. -/
theorem src_slice {y : Value} {sz : Nat} {more : List (List C)} {tx e' : TypeId} (hk : P.underlying tx = some (.slice e')) (hR : Rep w y (.sl sz more)) :
    ∃ news, Src P sz tx y more.length news w ∧ Reps w news more.flatten ∧ (∀ row ∈ more, row.length = sz) ∧ (∀ b ∈ fps w news more.flatten, b ∈ fp w y (.sl sz more)) ∧ ((fp w y (.sl sz more)).Nodup → (fps w news more.flatten).Nodup) := by
  simp only [Rep] at hR
  obtain ⟨base, cap, rfl, hle, hb⟩ := hR
  cases base with
  | none =>
    simp only at hb
    have : more = [] := List.eq_nil_of_length_eq_zero (by omega)
    subst this
    subst hb
    exact ⟨[], Src.ofNil w hk 0, by simp [Reps], by simp, by simp [fps], by simp [fps]⟩
  | some ad =>
    by_cases h0 : cap = 0
    · subst h0
      have : more = [] := List.eq_nil_of_length_eq_zero (by omega)
      subst this
      exact ⟨[], Src.ofSlice w hk ad 0 0 [] (by simp) (fun j u hj => by simp at hj) (fun u hu => by cases hu), by simp [Reps], by simp, by simp [fps], by simp [fps]⟩
    obtain ⟨hs, ⟨cells, hc, hcap⟩, hr⟩ := hb (by omega)
    obtain ⟨bk, of, sp⟩ := ad
    simp only at hs hc hcap hr
    subst hs
    have hlc : more.length * sz ≤ cap * sz := Nat.mul_le_mul_right _ hle
    obtain ⟨r1, r2⟩ := hr.reps hc more of (by omega)
    refine ⟨(cells.toList.drop of).take (more.length * sz), Src.ofSlice w hk ⟨bk, of, none⟩ more.length cap _ (by simp; omega) (fun j u hj => ?_) (fun u hu => ?_), r1, fun row hrow => ?_, fun b hb => ?_, fun hn => ?_⟩
    · rw [Addr.add_mid]; exact rangeAt_rowOf hc of _ j u hj
    · obtain ⟨j, hj, rfl⟩ := List.getElem_of_mem hu
      have hj2 : j < more.flatten.length := by rw [← r1.length]; exact hj
      exact (r1.get j _ _ (List.getElem?_eq_getElem hj) (List.getElem?_eq_getElem hj2)).one
    · obtain ⟨j, hj, rfl⟩ := List.getElem_of_mem hrow
      exact (hr.get more of j _ (List.getElem?_eq_getElem hj)).1
    · simp only [fp, h0, if_false, r2]; exact List.mem_cons_of_mem _ hb
    · simp only [fp, h0, if_false, r2] at hn; exact (List.nodup_cons.1 hn).2

theorem fin_app (h : Inv F s σ a w g) {o : Oper} (hd : ∀ k, o.dst = some k → k < F.n) {t u E e' : TypeId} {x y : Operand} {xx yy : X} {ks : List K} (ho : o.op = .call { callee := .builtin .append, args := #[x, y], argTypes := #[t, u] }) (hx : normX P t x = some xx) (hy : normX P u y = some yy)
    (ht : P.underlying t = some (.slice E)) (hk : kinds P E = some ks) (hu : P.underlying u = some (.slice e'))
    (h1 : step Φ o.dst (.app ks (P.bytesOf E) xx yy) σ = some σ1) (h2 : sstep G ro gd o.dst (.app ks (P.bytesOf E) xx yy) s = some s1) : Fin P F o s1 σ1 a w := by
  simp only [step] at h1
  simp only [sstep] at h2
  split at h2
  · rename_i n m e hdst hxm hym
    split at h2
    · rename_i hc2
      obtain ⟨halm, hale, hown⟩ := hc2
      split at h2
      · rename_i s0 hfr
        obtain ⟨hU0, rfl⟩ := fresh_spec hfr
        split at h1
        · rename_i sz rows sz' more hxd hyd
          split at h1
          · rename_i hc1
            obtain ⟨rfl, hsz, hflat, hlim, hmax⟩ := hc1
            subst hsz
            cases h1
            obtain ⟨hTx, hUx⟩ := h.x hx
            obtain ⟨hTy, hUy⟩ := h.x hy
            rw [hxm, hxd] at hTx
            rw [hym, hyd] at hTy
            rw [hxm] at hUx
            rw [hym] at hUy
            have hX := hTx.of_cell
            have hY := hTy.of_cell
            obtain ⟨base, cap, hxv, hxc, hxs⟩ := hX.1
            rw [hxv] at hX
            obtain ⟨hRx, x1, x2, x3⟩ := hX.2 halm
            obtain ⟨hRy, y1, y2, y3⟩ := hY.2 hale
            change Rep w _ _ at hRx hRy
            obtain ⟨news, hsrc, hnR, hms, hYsub, hYnd⟩ := src_slice hu hRy
            have hmL : ∀ e ∈ m.deps, s.L e = true := by simp only [alive, List.all_eq_true] at halm; exact halm
            have hheadOpen : ∀ ad, base = some ad → 0 < cap → open? w ad.block := by
              intro ad he hc0
              subst he
              have hc1 : ¬ cap = 0 := by omega
              have hmem : ad.block ∈ fp w (.slice (some ad) rows.length cap) (.sl ks.length rows) := by simp [fp, hc1]
              have hex : ∃ e ∈ m.deps, ad.block ∈ g.lam e := by
                by_cases ho2 : 2 ≤ m.own
                · exact (x2 ho2).2 _ hmem
                · obtain ⟨_, e, l, hl, hbe⟩ := x3 (.inl (by omega)) ad.block (fpRows w ad.block ks.length ad.off rows) (by show fp w _ _ = _; simp only [fp, hc1, if_false])
                  exact ⟨e, by rw [hl]; simp, hbe⟩
              obtain ⟨e, he, hbe⟩ := hex
              exact (h.live e (hmL e he) _ hbe).2
            obtain ⟨v', w1, olds, hrun, hres, hoR, hol, hfpo, hposo⟩ := run_app (ty := o.type) ht hk hsrc hRx hheadOpen hlim hmax
            have hexec : (execOp a.eval o).run P w = .ok (.value v') w1 := by
              simp [execOp, ho, resolve, hxv, invoke, builtin, hrun]
            have hnl : news.length = more.length * ks.length := hsrc.newsLen
            have hYf : ∀ b ∈ fps w news more.flatten, (∀ k, (s.b k).isSome = true → b ≠ g.bet k) ∧ (∀ e', s.L e' = true → b ∈ g.lam e' → e' ∈ e.deps) ∧ g.rch b := fun b hb => y1 b (hYsub b hb)
            have hlast : ∀ {K : List Nat} {m' : CM}, (∀ e ∈ K, e ∈ m.deps) → (∀ e1 ∈ K, e1 ∉ e.deps) → (2 ≤ m.own ∧ K = m.deps ∨ (m.own = 1 ∨ m.own = 3) ∧ ∃ x r, m.deps = x :: r ∧ K = [x]) →
                atom n 0 ∈ m'.deps → ((fps w olds rows.flatten = [] ∧ fps w news more.flatten = []) ∨ (∀ e ∈ m.deps, e ∈ K ∨ e ∈ m'.deps) ∧ (∀ e1 ∈ e.deps, e1 ∈ m'.deps)) → (∀ e1 ∈ m'.deps, e1 = atom n 0 ∨ e1 ∈ m.deps ∨ e1 ∈ e.deps) →
                (2 ≤ m'.own → (fps w olds rows.flatten = [] ∧ fps w news more.flatten = []) ∨ (2 ≤ m.own ∧ K = m.deps ∧ (∀ e1 ∈ e.deps, e1 ∉ m.deps) ∧ (fps w news more.flatten).Nodup ∧ ∀ b ∈ fps w news more.flatten, ∃ e1 ∈ e.deps, b ∈ g.lam e1)) →
                (m'.own = 1 ∨ m'.own = 3 → ∃ l, m'.deps = atom n 0 :: l) →
                Fin P F o ((({ s with L := upd s.L (atom n 0) true, U := upd s.U (atom n 0) true } : SS).kill K).put o.dst (.c m')) (σ.put o.dst (.c (.sl ks.length (rows ++ more)))) a w := by
              intro K m' k1 k2 k3 k4 k5 k6 k7 k8
              have he0K : atom n 0 ∉ K := fun he => by have := hUx _ (k1 _ he); rw [hU0] at this; cases this
              obtain ⟨g1, hg1⟩ := app_fin (s1 := (({ s with L := upd s.L (atom n 0) true, U := upd s.U (atom n 0) true } : SS).kill K).put o.dst (.c m')) h (hd n hdst) hX hUx halm hown hoR hnR hms hol hnl hfpo hposo hUy hYf hres hU0 k1 k2 k3 k4 k5 k6 k7 k8
                (by rw [hdst]; rfl) (by rw [hdst]; rfl) (by rw [hdst]; rfl) (by rw [hdst]; rfl) (by rw [hdst]; rfl) (fun e => kill_L s _ K he0K _ _ e)
              exact ⟨_, v', w1, g1, hexec, .inl rfl, by rw [hdst] at hg1 ⊢; exact hg1⟩
            have hflat' : ks.any K.mem = false → fps w olds rows.flatten = [] ∧ fps w news more.flatten = [] := by
              intro hm
              have := hflat.resolve_left (by simp [hm])
              exact ⟨flatRows_fps this.1, flatRows_fps this.2⟩
            split at h2
            · rename_i hov
              obtain ⟨ho2, hov⟩ := hov
              simp only [Bool.not_eq_true'] at hov
              have hdis := overlaps_false hov
              cases h2
              refine hlast (K := m.deps) (fun e he => he) hdis (.inl ⟨ho2, rfl⟩) ?_ ?_ ?_ ?_ ?_
              · split
                · simp
                · split <;> simp
              · cases hmm : ks.any K.mem with
                | false => exact .inl (hflat' hmm)
                | true =>
                  right
                  simp only [Bool.not_true, Bool.false_eq_true, if_false]
                  refine ⟨fun e he => .inl he, fun e1 he1 => ?_⟩
                  split <;> simp [he1]
              · intro e1 he1
                split at he1
                · simp at he1; exact .inl he1
                · split at he1 <;> simp only [List.mem_cons] at he1 <;> rcases he1 with he1 | he1
                  · exact .inl he1
                  · exact .inr (.inr he1)
                  · exact .inl he1
                  · exact .inr (.inr he1)
              · intro ho
                cases hmm : ks.any K.mem with
                | false => exact .inl (hflat' hmm)
                | true =>
                  right
                  simp only [hmm, Bool.not_true, Bool.false_eq_true, if_false] at ho
                  have he2 : 2 ≤ e.own := by
                    by_cases h : 2 ≤ e.own
                    · exact h
                    · simp [h] at ho
                  obtain ⟨n1, n2⟩ := y2 he2
                  exact ⟨ho2, rfl, fun e1 he1 hem => hdis e1 hem he1, hYnd n1, fun b hb => n2 b (hYsub b hb)⟩
              · intro _
                split
                · exact ⟨_, rfl⟩
                · split <;> exact ⟨_, rfl⟩
            · split at h2
              · rename_i ho13
                split at h2
                · rename_i q r hmd
                  split at h2
                  · cases h2
                  · rename_i hnc
                    simp only [List.contains_eq_mem, decide_eq_true_eq] at hnc
                    cases h2
                    refine hlast (K := [q]) (fun e he => ?_) (fun e1 he1 => ?_) (.inr ⟨ho13, q, r, hmd, rfl⟩) ?_ ?_ ?_ ?_ ?_
                    · simp only [List.mem_singleton] at he; rw [hmd, he]; simp
                    · simp only [List.mem_singleton] at he1; rw [he1]; exact hnc
                    · split <;> simp
                    · cases hmm : ks.any K.mem with
                      | false => exact .inl (hflat' hmm)
                      | true =>
                        right
                        simp only [Bool.not_true, Bool.false_eq_true, if_false]
                        refine ⟨fun e1 he1 => ?_, fun e1 he1 => by simp [he1]⟩
                        rw [hmd] at he1
                        simp only [List.mem_cons] at he1
                        rcases he1 with rfl | he1
                        · exact .inl (by simp)
                        · exact .inr (by simp [he1])
                    · intro e1 he1
                      split at he1
                      · simp at he1; exact .inl he1
                      · simp only [List.mem_cons, List.mem_append] at he1
                        rcases he1 with he1 | he1 | he1
                        · exact .inl he1
                        · exact .inr (.inl (by rw [hmd]; simp [he1]))
                        · exact .inr (.inr he1)
                    · intro ho
                      cases hmm : ks.any K.mem with
                      | false => exact .inl (hflat' hmm)
                      | true => simp [hmm] at ho
                    · intro _
                      split <;> exact ⟨_, rfl⟩
                · cases h2
              · cases h2
          · cases h1
        · cases h1
      · cases h2
    · cases h2
  · cases h2

theorem byteCells_reps {w : World} (l : List UInt8) : Reps w (byteCells ⟨l.toArray⟩) (l.map byteRow).flatten ∧ fps w (byteCells ⟨l.toArray⟩) (l.map byteRow).flatten = [] := by
  have e : byteCells ⟨l.toArray⟩ = l.map fun b => Value.int .u8 b.toNat := by simp [byteCells]
  rw [e]
  induction l with
  | nil => simp [Reps, fps]
  | cons b l ih =>
    simp only [List.map_cons, List.flatten_cons, byteRow, List.cons_append, List.nil_append, Reps, fps, Rep, fp]
    exact ⟨⟨trivial, (ih (by simp [byteCells])).1⟩, (ih (by simp [byteCells])).2⟩

theorem fin_apps (h : Inv F s σ a w g) {o : Oper} (hd : ∀ k, o.dst = some k → k < F.n) {t u E : TypeId} {x y : Operand} {xx yy : X} (ho : o.op = .call { callee := .builtin .append, args := #[x, y], argTypes := #[t, u] }) (hx : normX P t x = some xx) (hy : normX P u y = some yy)
    (ht : P.underlying t = some (.slice E)) (hk : kinds P E = some [.int .u8]) (hu : P.underlying u = some .string)
    (h1 : step Φ o.dst (.apps (P.bytesOf E) xx yy) σ = some σ1) (h2 : sstep G ro gd o.dst (.apps (P.bytesOf E) xx yy) s = some s1) : Fin P F o s1 σ1 a w := by
  simp only [step] at h1
  simp only [sstep] at h2
  split at h2
  · rename_i n m hdst hxm
    split at h2
    · rename_i hc2
      obtain ⟨halm, hown, hsc⟩ := hc2
      split at h2
      · rename_i s0 hfr
        obtain ⟨hU0, rfl⟩ := fresh_spec hfr
        split at h1
        · rename_i sz rows l hxd hyd
          split at h1
          · rename_i hc1
            obtain ⟨rfl, hflat, hlim, hmax⟩ := hc1
            cases h1
            obtain ⟨hTx, hUx⟩ := h.x hx
            have hyv := h.hd hy hsc hyd
            simp only [Hd] at hyv
            rw [hxm, hxd] at hTx
            rw [hxm] at hUx
            have hX := hTx.of_cell
            obtain ⟨base, cap, hxv, hxc, hxs⟩ := hX.1
            rw [hxv] at hX
            obtain ⟨hRx, x1, x2, x3⟩ := hX.2 halm
            change Rep w _ _ at hRx
            obtain ⟨hnR, hYe⟩ := byteCells_reps (w := w) l
            have hsrc := Src.ofString (P := P) w hu ⟨l.toArray⟩
            rw [size_mk] at hsrc
            have hml : (l.map byteRow).length = l.length := by simp
            have hmL : ∀ e ∈ m.deps, s.L e = true := by simp only [alive, List.all_eq_true] at halm; exact halm
            have hheadOpen : ∀ ad, base = some ad → 0 < cap → open? w ad.block := by
              intro ad he hc0
              subst he
              have hc1 : ¬ cap = 0 := by omega
              have hmem : ad.block ∈ fp w (.slice (some ad) rows.length cap) (.sl 1 rows) := by simp [fp, hc1]
              have hex : ∃ e ∈ m.deps, ad.block ∈ g.lam e := by
                by_cases ho2 : 2 ≤ m.own
                · exact (x2 ho2).2 _ hmem
                · obtain ⟨_, e, l, hl, hbe⟩ := x3 (.inl (by omega)) ad.block (fpRows w ad.block 1 ad.off rows) (by show fp w _ _ = _; simp only [fp, hc1, if_false])
                  exact ⟨e, by rw [hl]; simp, hbe⟩
              obtain ⟨e, he, hbe⟩ := hex
              exact (h.live e (hmL e he) _ hbe).2
            obtain ⟨v', w1, olds, hrun, hres, hoR, hol, hfpo, hposo⟩ := run_app (ty := o.type) (ks := [.int .u8]) ht hk hsrc hRx hheadOpen hlim hmax
            have hexec : (execOp a.eval o).run P w = .ok (.value v') w1 := by
              simp [execOp, ho, resolve, hxv, hyv, invoke, builtin, hrun]
            have hRe : fps w olds rows.flatten = [] := flatRows_fps hflat
            have hres' : AppRes w base rows.length cap 1 (l.map byteRow).length olds (byteCells ⟨l.toArray⟩) v' w1 := by rw [hml]; exact hres
            have hlast : ∀ {K : List Nat}, (∀ e ∈ K, e ∈ m.deps) → (2 ≤ m.own ∧ K = m.deps ∨ (m.own = 1 ∨ m.own = 3) ∧ ∃ x r, m.deps = x :: r ∧ K = [x]) →
                Fin P F o ((({ s with L := upd s.L (atom n 0) true, U := upd s.U (atom n 0) true } : SS).kill K).put o.dst (.c ⟨[atom n 0], 2⟩)) (σ.put o.dst (.c (.sl 1 (rows ++ l.map byteRow)))) a w := by
              intro K k1 k3
              have he0K : atom n 0 ∉ K := fun he => by have := hUx _ (k1 _ he); rw [hU0] at this; cases this
              obtain ⟨g1, hg1⟩ := app_fin (s1 := (({ s with L := upd s.L (atom n 0) true, U := upd s.U (atom n 0) true } : SS).kill K).put o.dst (.c ⟨[atom n 0], 2⟩)) h (hd n hdst) hX hUx halm hown hoR hnR (by
                  intro row hrow
                  obtain ⟨b, _, rfl⟩ := List.mem_map.1 hrow
                  rfl) hol (by rw [hml, byteCells_length, size_mk]; omega) hfpo hposo (D := []) (m' := ⟨[atom n 0], 2⟩) (by simp) (by rw [hYe]; simp) hres' hU0 k1 (by simp) k3 (by simp) (.inl ⟨hRe, hYe⟩) (fun e1 he1 => by simp at he1; exact .inl he1) (fun _ => .inl ⟨hRe, hYe⟩) (fun ho => by simp at ho)
                (by rw [hdst]; rfl) (by rw [hdst]; rfl) (by rw [hdst]; rfl) (by rw [hdst]; rfl) (by rw [hdst]; rfl) (fun e => kill_L s _ K he0K _ _ e)
              exact ⟨_, v', w1, g1, hexec, .inl rfl, by rw [hdst] at hg1 ⊢; exact hg1⟩
            split at h2
            · rename_i ho2
              cases h2
              exact hlast (fun e he => he) (.inl ⟨ho2, rfl⟩)
            · rename_i ho2
              split at h2
              · rename_i q r hmd
                cases h2
                exact hlast (K := [q]) (fun e he => by simp only [List.mem_singleton] at he; rw [hmd, he]; simp) (.inr ⟨.inl (by omega), q, r, hmd, rfl⟩)
              · cases h2
          · cases h1
        · cases h1
      · cases h2
    · cases h2
  · cases h2
end
end Go.Opt
/- Each operation, by itself: structs that are built. -/
set_option linter.unusedVariables false
namespace Go.Opt
open Go.RowKit

theorem foldl_set (off : Nat) : ∀ (vs : List Value) (k : Nat) (cells : Array Value), off + k + vs.length ≤ cells.size →
    ((vs.zipIdx k).foldl (fun cs (x : Value × Nat) => cs.setIfInBounds (off + x.2) x.1) cells).toList = cells.toList.take (off + k) ++ vs ++ cells.toList.drop (off + k + vs.length)
  | [], k, cells, _ => by simp
  | v :: rest, k, cells, h => by
    simp only [List.zipIdx_cons, List.foldl_cons]
    rw [foldl_set off rest (k + 1) _ (by simp at h ⊢; omega)]
    have e := list_seg_step cells.toList (off + k) v rest (by simp at h ⊢; omega)
    simpa [Array.toList_setIfInBounds, Nat.add_assoc] using e

section
variable {P : Program} {F : Frm} {s : SS} {σ : S} {a : Act} {w : World} {g : Gh} {Φ : Cl'} {G : Nat → Option Sg} {ro : List Nat} {gd : Option (Nat × Bool)} {σ1 : S} {s1 : SS}

theorem fill_ok (h : Inv F s σ a w g) {t : TypeId} {place : Nat → Option (Nat × Nat)} (hplace : ∀ i f, fieldOf P t i = some f → place i = some (f.offset, P.cellsOf f.type)) :
    ∀ (ps : List (Nat × Operand)) (l : List (Nat × Nat × X)) (dps : List (Nat × Nat × List C)) (cells : Array Value) (cs cs' : List C) (ms ms' : List CM),
      normParts P t ps = some l → evParts σ.t l = some dps → fillCells dps cs = some cs' → partsM s l ms = some ms' → CellsOK (s.cx w g) cells.toList cs ms → (∀ m ∈ ms, ∀ e ∈ m.deps, s.U e = true) →
      ∃ cells', Instr.fill place cells (ps.map fun (i, x) => (i, a.eval x)) = some cells' ∧ CellsOK (s.cx w g) cells'.toList cs' ms' ∧ ∀ m ∈ ms', ∀ e ∈ m.deps, s.U e = true
  | [], l, dps, cells, cs, cs', ms, ms', h1, h2, h3, h4, hC, hU => by
    simp only [normParts, Option.some.injEq] at h1
    subst h1
    simp only [evParts, Option.some.injEq] at h2
    subst h2
    simp only [fillCells, Option.some.injEq] at h3
    simp only [partsM, Option.some.injEq] at h4
    subst h3; subst h4
    exact ⟨cells, rfl, hC, hU⟩
  | (i, x) :: ps, l, dps, cells, cs, cs', ms, ms', h1, h2, h3, h4, hC, hU => by
    simp only [normParts] at h1
    split at h1
    · rename_i f hf
      split at h1
      · rename_i X l' hX hl'
        cases h1
        simp only [evParts] at h2
        split at h2
        · rename_i xs dps' hxs hdps'
          cases h2
          simp only [fillCells] at h3
          split at h3
          · rename_i hc
            simp only [partsM] at h4
            split at h4
            · rename_i qs hqs
              split at h4
              · rename_i hc4
                obtain ⟨hT, hXU⟩ := h.x hX
                have hV := hT.cellsOf hqs hxs
                have hvl : (a.eval x).cells.toList.length = P.cellsOf f.type := hV.lenV.trans hc4.1
                have hcl : cells.toList.length = ms.length := hC.lenV
                have hfit : f.offset + (a.eval x).cells.size ≤ cells.size := by simp at hvl hcl; omega
                have hnew : (((a.eval x).cells.zipIdx).foldl (fun cs (y : Value × Nat) => cs.setIfInBounds (f.offset + y.2) y.1) cells).toList = cells.toList.take f.offset ++ (a.eval x).cells.toList ++ cells.toList.drop (f.offset + (a.eval x).cells.toList.length) := by
                  rw [← Array.foldl_toList, Array.toList_zipIdx, foldl_set f.offset _ 0 cells (by simp; exact hfit)]
                  simp
                have hC' := hC.lay hV f.offset (by omega)
                rw [← hnew] at hC'
                obtain ⟨cells', r1, r2, r3⟩ := fill_ok h hplace ps l' dps' _ _ cs' _ ms' hl' hdps' h3 h4 hC' (fun m hm e he => by
                  rcases layM_deps m hm e he with ⟨q, hq, hqe⟩ | ⟨q, hq, hqe⟩
                  · exact hU q hq e hqe
                  · exact hXU e (M.cells_deps hqs q hq e hqe))
                refine ⟨cells', ?_, r2, r3⟩
                simp only [List.map_cons, Instr.fill, hplace i f hf]
                have c1 : ((a.eval x).cells.size != P.cellsOf f.type) = false := by simp at hvl ⊢; exact hvl
                have c2 : ¬ ((a.eval x).cells.size ≠ P.cellsOf f.type ∨ f.offset + (a.eval x).cells.size > cells.size) := by simp at hvl ⊢; omega
                simp only [Bool.or_eq_true, decide_eq_true_eq] 
                rw [if_neg c2]
                exact r1
              · cases h4
            · cases h4
          · cases h3
        · cases h2
      · cases h1
    · cases h1

theorem places_ok : ∀ (fs : List Field), (∀ f ∈ fs, (P.info? f.type).isSome = true) → ∃ places, fs.mapM (fun f => (P.info? f.type).map fun i => (f.offset, i.size)) = some places ∧ ∀ (i : Nat) (f : Field), fs[i]? = some f → places[i]? = some (f.offset, P.cellsOf f.type)
  | [], _ => ⟨[], by simp, by simp⟩
  | f :: fs, h => by
    obtain ⟨i, hi⟩ := Option.isSome_iff_exists.1 (h f (by simp))
    obtain ⟨places, h1, h2⟩ := places_ok fs fun f' hf => h f' (by simp [hf])
    refine ⟨(f.offset, i.size) :: places, by simp [List.mapM_cons, hi, h1], fun j f' hj => ?_⟩
    cases j with
    | zero => simp at hj; subst hj; simp [Program.cellsOf, hi]
    | succ j => simp at hj ⊢; exact h2 j f' hj

theorem fin_build (h : Inv F s σ a w g) {o : Oper} (hd : ∀ k, o.dst = some k → k < F.n) {t : TypeId} {ps : Array (Nat × Operand)} {ks : List K} {l : List (Nat × Nat × X)} (ho : o.op = .build t ps) (hpi : partsInfo P t = true) (hk : kinds P t = some ks) (hl : normParts P t ps.toList = some l)
    (h1 : step Φ o.dst (.build ks l) σ = some σ1) (h2 : sstep G ro gd o.dst (.build ks l) s = some s1) : Fin P F o s1 σ1 a w := by
  simp only [step] at h1
  simp only [sstep] at h2
  split at h1
  · rename_i dps hdps
    obtain ⟨cs', hcs, rfl⟩ := Option.map_eq_some_iff.1 h1
    obtain ⟨ms', hms, rfl⟩ := Option.map_eq_some_iff.1 h2
    unfold partsInfo at hpi
    split at hpi
    · rename_i fs hu
      simp only [List.all_eq_true] at hpi
      obtain ⟨places, hp1, hp2⟩ := places_ok fs.toList hpi
      obtain ⟨_, i, z, hi, hs, hpos, hz, hf⟩ := kinds_info hk
      have hC0 : CellsOK (s.cx w g) z.cells.toList (ks.map K.zero) (ks.map fun _ => CM.free) := CellsOK.zeros hf (by simp)
      obtain ⟨cells', r1, r2, r3⟩ := fill_ok h (place := (places.toArray[·]?)) (fun j f hj => by
        have : fs.toList[j]? = some f := by
          unfold fieldOf at hj
          rw [hu] at hj
          simpa using hj
        have := hp2 j f this
        simpa using this) ps.toList l dps z.cells _ cs' _ ms' hl hdps hcs hms hC0 (by
          intro m hm e he
          obtain ⟨_, _, rfl⟩ := List.mem_map.1 hm
          simp [CM.free] at he)
      refine ⟨.value (.agg cells'), _, w, g, ?_, .inl rfl, h.putD hd (TOK.agg r2) ?_⟩
      · have hb : P.built t (ps.map fun (i, x) => (i, a.eval x)).toList = some cells' := by
          simp only [Program.built, hi, hu, hz, hp1, Array.toList_map]
          exact r1
        simp only [execOp, ho, Sem.run_bind, run_build w t _ cells' hb, Result.andThen_ok, Sem.run_pure]
      · intro e he
        simp only [M.deps, List.mem_flatMap] at he
        obtain ⟨q, hq, hqe⟩ := he
        exact r3 q hq e hqe
    · cases hpi
  · cases h1
end
end Go.Opt
/- Each operation, by itself: slices that are built. -/
set_option linter.unusedVariables false
namespace Go.Opt
open Go.RowKit

theorem flatten_take {sz : Nat} : ∀ (rows : List (List C)) (i : Nat), (∀ r ∈ rows, r.length = sz) → i ≤ rows.length → (rows.take i).flatten = rows.flatten.take (i * sz) ∧ (rows.drop i).flatten = rows.flatten.drop (i * sz)
  | rows, 0, _, _ => by simp
  | [], i + 1, _, h => by simp at h
  | r :: rows, i + 1, hs, h => by
    obtain ⟨h1, h2⟩ := flatten_take rows i (fun r' hr => hs r' (by simp [hr])) (by simpa using h)
    have hr := hs r (by simp)
    have e : (i + 1) * sz = r.length + i * sz := by rw [Nat.add_mul, hr]; omega
    simp only [List.take_succ_cons, List.drop_succ_cons, List.flatten_cons, h1, h2, e, List.take_length_add_append, List.drop_length_add_append, and_self]

theorem flatten_set {sz : Nat} {rows : List (List C)} {i : Nat} {cs : List C} (hs : ∀ r ∈ rows, r.length = sz) (hi : i < rows.length) (hc : cs.length = sz) : (rows.set i cs).flatten = splice rows.flatten (i * sz) cs := by
  rw [set_eq_split _ _ _ hi, List.flatten_append, List.flatten_cons, (flatten_take rows i hs (by omega)).1, (flatten_take rows (i + 1) hs (by omega)).2]
  unfold splice
  rw [hc, List.append_assoc, Nat.add_mul, Nat.one_mul]

section
variable {P : Program} {F : Frm} {s : SS} {σ : S} {a : Act} {w : World} {g : Gh} {Φ : Cl'} {G : Nat → Option Sg} {ro : List Nat} {gd : Option (Nat × Bool)} {σ1 : S} {s1 : SS}

theorem fillRows_ok (h : Inv F s σ a w g) {E : TypeId} {sz : Nat} :
    ∀ (ps : List (Nat × Operand)) (l : List (Nat × X)) (dps : List (Nat × List C)) (cells : Array Value) (rows rows' : List (List C)) (ms : List CM) (ds D0 : List Nat) (ok ok0 : Bool),
      normRows P E ps = some l → evRows σ.t l = some dps → fillRows sz dps rows = some rows' → rowsM s sz l = some (ds, ok) → CellsOK (s.cx w g) cells.toList rows.flatten ms → (∀ r ∈ rows, r.length = sz) →
      alives s.L ms = true → (∀ m ∈ ms, ∀ e ∈ m.deps, e ∈ D0 ∧ s.U e = true) → (ok0 = true → ∀ m ∈ ms, 2 ≤ m.own) → (ok0 = true → ∀ e ∈ D0, e ∉ ds) →
      ∃ cells' ms', Instr.fill (fun i => some (i * sz, sz)) cells (ps.map fun (i, x) => (i, a.eval x)) = some cells' ∧ CellsOK (s.cx w g) cells'.toList rows'.flatten ms' ∧ (∀ r ∈ rows', r.length = sz) ∧ rows'.length = rows.length ∧
        alives s.L ms' = true ∧ (∀ m ∈ ms', ∀ e ∈ m.deps, (e ∈ D0 ∨ e ∈ ds) ∧ s.U e = true) ∧ (ok0 = true → ok = true → ∀ m ∈ ms', 2 ≤ m.own)
  | [], l, dps, cells, rows, rows', ms, ds, D0, ok, ok0, h1, h2, h3, h4, hC, hs, hal, hD, ho, _ => by
    simp only [normRows, Option.some.injEq] at h1
    subst h1
    simp only [evRows, Option.some.injEq] at h2
    subst h2
    simp only [fillRows, Option.some.injEq] at h3
    subst h3
    exact ⟨cells, ms, rfl, hC, hs, rfl, hal, fun m hm e he => ⟨.inl (hD m hm e he).1, (hD m hm e he).2⟩, fun h _ => ho h⟩
  | (i, x) :: ps, l, dps, cells, rows, rows', ms, ds, D0, ok, ok0, h1, h2, h3, h4, hC, hs, hal, hD, ho, hdj => by
    simp only [normRows] at h1
    split at h1
    · rename_i X l' hX hl'
      cases h1
      simp only [evRows] at h2
      split at h2
      · rename_i xs dps' hxs hdps'
        cases h2
        simp only [fillRows] at h3
        split at h3
        · rename_i hc
          simp only [rowsM] at h4
          split at h4
          · rename_i qs ds' ok' hqs hrow
            split at h4
            · rename_i hc4
              simp only [Option.some.injEq, Prod.mk.injEq] at h4
              obtain ⟨rfl, rfl⟩ := h4
              obtain ⟨hT, hXU⟩ := h.x hX
              have hV := hT.cellsOf hqs hxs
              have hvl : (a.eval x).cells.toList.length = sz := hV.lenV.trans hc4.1
              have hfl : rows.flatten.length = rows.length * sz := by
                rw [List.length_flatten, List.eq_replicate_of_mem (l := rows.map List.length) (a := sz) (by
                  intro b hb; obtain ⟨r, hr, rfl⟩ := List.mem_map.1 hb; exact hs r hr)]
                simp
              have hil : (i + 1) * sz ≤ rows.length * sz := Nat.mul_le_mul_right _ (by omega)
              rw [Nat.add_mul, Nat.one_mul] at hil
              have hcl : cells.toList.length = rows.length * sz := by rw [hC.lenV, ← hC.lenC, hfl]
              have hml : ms.length = rows.length * sz := by rw [← hC.lenC, hfl]
              have hfit : i * sz + (a.eval x).cells.size ≤ cells.size := by simp at hvl hcl; omega
              have hnew : (((a.eval x).cells.zipIdx).foldl (fun cs (y : Value × Nat) => cs.setIfInBounds (i * sz + y.2) y.1) cells).toList = cells.toList.take (i * sz) ++ (a.eval x).cells.toList ++ cells.toList.drop (i * sz + (a.eval x).cells.toList.length) := by
                rw [← Array.foldl_toList, Array.toList_zipIdx, foldl_set (i * sz) _ 0 cells (by simp; exact hfit)]
                simp
              have hC' := hC.lay hV (i * sz) (by omega)
              rw [← hnew, ← flatten_set hs hc.2 hc.1] at hC'
              have hdeps : ∀ m ∈ layM ms (i * sz) qs, ∀ e ∈ m.deps, e ∈ D0 ++ qs.flatMap (·.deps) ∧ s.U e = true := by
                intro m hm e he
                rcases layM_deps m hm e he with ⟨q, hq, hqe⟩ | ⟨q, hq, hqe⟩
                · exact ⟨List.mem_append_left _ (hD q hq e hqe).1, (hD q hq e hqe).2⟩
                · exact ⟨List.mem_append_right _ (List.mem_flatMap.2 ⟨q, hq, hqe⟩), hXU e (M.cells_deps hqs q hq e hqe)⟩
              have hal' : alives s.L (layM ms (i * sz) qs) = true := by
                simp only [alives, List.all_eq_true]
                intro m hm
                simp only [alive, List.all_eq_true]
                intro e he
                rcases layM_deps m hm e he with ⟨q, hq, hqe⟩ | ⟨q, hq, hqe⟩
                · have := alives_mem hal q hq
                  simp only [alive, List.all_eq_true] at this; exact this e hqe
                · have := alives_mem hc4.2 q hq
                  simp only [alive, List.all_eq_true] at this; exact this e hqe
              obtain ⟨cells', ms', r1, r2, r3, r4, r5, r6, r7⟩ := fillRows_ok h ps l' dps' _ (rows.set i xs) rows' _ ds' (D0 ++ qs.flatMap (·.deps)) ok' (ok0 && (qs.all (fun m => 2 ≤ m.own) && !overlaps (qs.flatMap (·.deps)) ds')) hl' hdps' h3 hrow hC'
                (fun r hr => by
                  rcases List.mem_or_eq_of_mem_set hr with hr | hr
                  · exact hs r hr
                  · rw [hr]; exact hc.1) hal' hdeps
                (fun hok m hm => by
                  simp only [Bool.and_eq_true, List.all_eq_true, decide_eq_true_eq] at hok
                  rw [layM_eq] at hm
                  simp only [List.mem_append] at hm
                  rcases hm with (hm | hm) | hm
                  · exact ho hok.1 m (List.mem_of_mem_take hm)
                  · simp only [layNew, List.mem_map] at hm
                    obtain ⟨q, hq, rfl⟩ := hm
                    split
                    · rename_i hov
                      exfalso
                      have : overlaps q.deps (owned (List.take (i * sz) ms) ++ owned (List.drop (i * sz + qs.length) ms)) = false := by
                        simp only [overlaps, List.any_eq_false, List.contains_eq_mem, decide_eq_true_eq]
                        intro e he hmem
                        have hin : e ∈ D0 := by
                          rcases List.mem_append.1 hmem with hmem | hmem <;> simp only [owned, List.mem_flatMap] at hmem <;> obtain ⟨m0, hm0, he0⟩ := hmem <;> split at he0
                          · exact (hD m0 (List.mem_of_mem_take hm0) e he0).1
                          · cases he0
                          · exact (hD m0 (List.mem_of_mem_drop hm0) e he0).1
                          · cases he0
                        exact hdj hok.1 e hin (List.mem_append_left _ (List.mem_flatMap.2 ⟨q, hq, he⟩))
                      rw [this] at hov
                      simp at hov
                    · exact hok.2.1 q hq
                  · exact ho hok.1 m (List.mem_of_mem_drop hm))
                (fun hok e he hme => by
                  simp only [Bool.and_eq_true, List.all_eq_true, decide_eq_true_eq, Bool.not_eq_true'] at hok
                  rcases List.mem_append.1 he with he | he
                  · exact hdj hok.1 e he (List.mem_append_right _ hme)
                  · exact overlaps_false hok.2.2 e he hme)
              refine ⟨cells', ms', ?_, r2, r3, by rw [r4]; simp, r5, fun m hm e he => ?_, fun hok0 hok => ?_⟩
              · simp only [List.map_cons, Instr.fill]
                have c2 : ¬ ((a.eval x).cells.size ≠ sz ∨ i * sz + (a.eval x).cells.size > cells.size) := by simp at hvl ⊢; omega
                simp only [Bool.or_eq_true, decide_eq_true_eq]
                rw [if_neg c2]
                exact r1
              · obtain ⟨q1, q2⟩ := r6 m hm e he
                refine ⟨?_, q2⟩
                rcases q1 with q1 | q1
                · rcases List.mem_append.1 q1 with q1 | q1
                  · exact .inl q1
                  · exact .inr (List.mem_append_left _ q1)
                · exact .inr (List.mem_append_right _ q1)
              · simp only [Bool.and_eq_true] at hok
                refine r7 ?_ hok.1.1
                simp only [Bool.and_eq_true]
                exact ⟨hok0, hok.1.2, hok.2⟩
            · cases h4
          · cases h4
        · cases h3
      · cases h2
    · cases h1

theorem rowsM_used (h : Inv F s σ a w g) {E : TypeId} {sz : Nat} : ∀ (ps : List (Nat × Operand)) (l : List (Nat × X)) (ds : List Nat) (ok : Bool), normRows P E ps = some l → rowsM s sz l = some (ds, ok) → ∀ e ∈ ds, s.U e = true
  | [], l, ds, ok, h1, h2 => by
    simp only [normRows, Option.some.injEq] at h1
    subst h1
    simp only [rowsM, Option.some.injEq, Prod.mk.injEq] at h2
    rw [← h2.1]; simp
  | (i, x) :: ps, l, ds, ok, h1, h2 => by
    simp only [normRows] at h1
    split at h1
    · rename_i X l' hX hl'
      cases h1
      simp only [rowsM] at h2
      split at h2
      · rename_i qs ds' ok' hqs hrow
        split at h2
        · simp only [Option.some.injEq, Prod.mk.injEq] at h2
          intro e he
          rw [← h2.1] at he
          rcases List.mem_append.1 he with he | he
          · obtain ⟨q, hq, hqe⟩ := List.mem_flatMap.1 he
            exact (h.x hX).2 e (M.cells_deps hqs q hq e hqe)
          · exact rowsM_used h ps l' ds' ok' hl' hrow e he
        · cases h2
      · cases h2
    · cases h1

theorem fin_bslice (h : Inv F s σ a w g) {o : Oper} (hd : ∀ k, o.dst = some k → k < F.n) {t E : TypeId} {len : Nat} {ps : Array (Nat × Operand)} {ks : List K} {l : List (Nat × X)} (ho : o.op = .buildSlice t len ps) (ht : P.underlying t = some (.slice E)) (hk : kinds P E = some ks) (hl : normRows P E ps.toList = some l) (hlen : len * ks.length ≤ 1000)
    (h1 : step Φ o.dst (.bslice ks len l) σ = some σ1) (h2 : sstep G ro gd o.dst (.bslice ks len l) s = some s1) : Fin P F o s1 σ1 a w := by
  simp only [step] at h1
  simp only [sstep] at h2
  split at h1
  · rename_i dps hdps
    obtain ⟨rows', hrows, rfl⟩ := Option.map_eq_some_iff.1 h1
    split at h2
    · rename_i n ds ok hdst hrm
      split at h2
      · rename_i s0 hfr
        cases h2
        obtain ⟨hU0, rfl⟩ := fresh_spec hfr
        obtain ⟨_, i, z, hi, hs, hpos, hz, hf⟩ := kinds_info hk
        have hzs : z.cells.size = ks.length := by have := (fits_get hf).1; simpa using this
        have hml : (madeCells z.cells (len * ks.length)).toList = (List.replicate len z.cells.toList).flatten := by rw [← hzs, madeCells_toList]
        obtain ⟨z1, z2⟩ := zeros_rows (w := w) hf len
        have hfl : (List.replicate len (ks.map K.zero)).flatten.length = len * ks.length := by simp
        have hvl : (List.replicate len z.cells.toList).flatten.length = len * ks.length := by simp [hzs]
        have hC0 : CellsOK (s.cx w g) (madeCells z.cells (len * ks.length)).toList (List.replicate len (ks.map K.zero)).flatten (List.replicate (len * ks.length) CM.free) := by
          rw [hml]
          refine ⟨by rw [hvl]; simp, by rw [hfl]; simp, fun j v c m hv hc hm => ?_, fun i j v v' c c' m m' _ hv hc _ _ _ _ _ _ _ _ b hb => ?_⟩
          · have hr := z1.get j v c hv hc
            refine ⟨hr.hd, fun _ => ⟨hr, ?_⟩⟩
            have hs := fps_one (w := w) hv hc (hvl.trans hfl.symm)
            rw [z2] at hs
            have : fp w v c = [] := by simpa using hs
            change FpOK _ _ (fp w v c)
            rw [this]
            exact FpOK.nil _ _
          · have hs := fps_one (w := w) hv hc (hvl.trans hfl.symm)
            rw [z2] at hs
            have : fp w v c = [] := by simpa using hs
            change b ∈ fp w v c at hb
            rw [this] at hb
            cases hb
        obtain ⟨cells', ms', r1, r2, r3, r4, r5, r6, r7⟩ := fillRows_ok h (E := E) (sz := ks.length) ps.toList l dps _ _ rows' _ ds [] ok true hl hdps hrows hrm hC0 (by
            intro r hr; rw [List.eq_of_mem_replicate hr]; simp) (by
            simp only [alives, List.all_eq_true]; intro m hm; rw [List.eq_of_mem_replicate hm]; rfl) (by
            intro m hm e he; rw [List.eq_of_mem_replicate hm] at he; simp [CM.free] at he) (by
            intro _ m hm; rw [List.eq_of_mem_replicate hm]; simp [CM.free]) (by simp)
        simp only [List.length_replicate] at r4
        have hcl : cells'.toList.length = len * ks.length := by
          rw [r2.lenV, ← r2.lenC, List.length_flatten, List.eq_replicate_of_mem (l := rows'.map List.length) (a := ks.length) (by
            intro b hb; obtain ⟨r, hr, rfl⟩ := List.mem_map.1 hb; exact r3 r hr)]
          simp [r4]
        have hrun : (Instr.buildSlice t len (ps.map fun (i, x) => (i, a.eval x))).run P w = .ok (.slice (some ⟨w.heap.size, 0, none⟩) len len) (w.alloc (.cells cells' E)) := by
          have hbig : ¬ (len * ks.length > 2 ^ 24) := by omega
          have hfill : Instr.fill (fun i => some (i * ks.length, ks.length)) (madeCells z.cells (len * ks.length)) (ps.map fun (i, x) => (i, a.eval x)).toList = some cells' := by
            rw [Array.toList_map]; exact r1
          by_cases h0 : len * ks.length = 0
          · have hf0 : Instr.fill (fun i => some (i * ks.length, ks.length)) #[] (ps.map fun (i, x) => (i, a.eval x)).toList = some cells' := by
              rw [← hfill, h0]; simp [madeCells, Array.range_zero']
            simp only [Array.toList_map] at hf0
            simp [Instr.buildSlice, run_underlying ht, run_sizeOfT hk, h0, newRow, Array.range_zero', hf0]
          · unfold madeCells at hfill
            simp only [Array.toList_map] at hfill
            have hbig' : ¬ (16777216 < len * ks.length) := by omega
            have h0' : ¬ (len = 0 ∨ ks.length = 0) := by rwa [← Nat.mul_eq_zero]
            simp only [Instr.buildSlice, Sem.run_bind, run_underlying ht, Result.andThen_ok, run_sizeOfT hk, Sem.run_ite, if_neg hbig, if_neg h0, Sem.run_pure, zeroValue, typeInfo, hi, hz, run_program, Array.toList_map, hfill, newRow, run_newObj_alloc]
        refine ⟨.value (.slice (some ⟨w.heap.size, 0, none⟩) len len), _, w.alloc (.cells cells' E), { g with lam := upd g.lam (atom n 0) [w.heap.size] }, ?_, .inl rfl, ?_⟩
        · simp only [execOp, ho, Sem.run_bind, hrun, Result.andThen_ok, Sem.run_pure]
        · rw [hdst]
          have hne : ∀ e, s.U e = true → e ≠ atom n 0 := fun e he h => by rw [h, hU0] at he; cases he
          refine h.newClass (hd n hdst) hU0 (K := []) (s1 := ({ s with L := upd s.L (atom n 0) true, U := upd s.U (atom n 0) true } : SS).put (some n) (.c ⟨atom n 0 :: ds, if ok = true then 3 else 1⟩)) rfl rfl rfl rfl rfl (fun e' => ?_) (by simp) rfl rfl rfl (fun b hb _ => World.get_alloc_lt _ _ hb) (fun b hb => ?_) (fun hmv => ?_) (fun e' he' => ?_)
          · by_cases he : e' = atom n 0
            · simp [SS.put, SS.cutT, he, upd_same]
            · simp [SS.put, SS.cutT, upd_ne _ _ he, he]
          · simp only [List.mem_singleton] at hb
            subst hb
            exact ⟨.inl (Nat.le_refl _), _, _, World.get_alloc_new _ _⟩
          · have hC1 := r2.mv hmv fun m hm e he => (r6 m hm e he).2
            have hal1 : alives (({ s with L := upd s.L (atom n 0) true, U := upd s.U (atom n 0) true } : SS).put (some n) (.c ⟨atom n 0 :: ds, if ok = true then 3 else 1⟩)).L ms' = true := by
              simp only [alives, List.all_eq_true]
              intro m hm
              have h1 := alives_mem r5 m hm
              simp only [alive, List.all_eq_true] at h1 ⊢
              intro e he
              show upd s.L (atom n 0) true e = true
              rw [upd_ne _ _ (hne e (r6 m hm e he).2)]; exact h1 e he
            have hreps := hC1.reps hal1
            have hfok := hC1.fps_ok hal1
            change Reps (w.alloc (.cells cells' E)) cells'.toList rows'.flatten at hreps
            have hdsub : ∀ e ∈ ms'.flatMap (·.deps), e ∈ ds := by
              intro e he
              obtain ⟨q, hq, hqe⟩ := List.mem_flatMap.1 he
              exact ((r6 q hq e hqe).1).resolve_left (by simp)
            obtain ⟨q1, q2⟩ := row_rep (cap := len) (sz := ks.length) (rows := rows') (rowOf_box (World.get_alloc_new w _)) (by simp at hcl; omega) (by omega) r3 hreps (by intro j v hj; simpa using hj)
            rw [r4] at q1 q2
            have hold : ∀ b ∈ fps (w.alloc (.cells cells' E)) cells'.toList rows'.flatten, b < w.heap.size := by
              intro b hb
              have h0 := r2.reps r5
              change Reps w cells'.toList rows'.flatten at h0
              have hfr := (Reps.frame (w' := w.alloc (.cells cells' E)) rows'.flatten cells'.toList h0 fun b hb => by
                obtain ⟨j, v, c, hv, hc, hbf⟩ := mem_fps hb
                exact World.get_alloc_lt w _ (Rep.lt c v (h0.get j v c hv hc) b hbf)).2
              rw [hfr] at hb
              obtain ⟨j, v, c, hv, hc, hbf⟩ := mem_fps hb
              exact Rep.lt c v (h0.get j v c hv hc) b hbf
            refine ⟨q1.hd, fun _ => ⟨q1, ?_⟩⟩
            show FpOK _ _ (fp (w.alloc _) _ _)
            rw [q2]
            by_cases hl0 : len = 0
            · rw [if_pos hl0]; exact FpOK.nil _ _
            rw [if_neg hl0]
            refine ⟨fun b hb => ?_, fun ho => ⟨List.nodup_cons.2 ⟨fun hb => absurd (hold _ hb) (by omega), ?_⟩, fun b hb => ?_⟩, fun ho b r hbr => ?_⟩
            · rcases List.mem_cons.1 hb with hb | hb
              · subst hb
                refine ⟨fun k hk he => ?_, fun e' he' hbe => ?_, (h.reach _).2 (.inl (.inl h.kept.size))⟩
                · obtain ⟨ms, hms⟩ := Option.isSome_iff_exists.1 (show (s.b k).isSome = true from hk)
                  obtain ⟨_, cells, ty, hheap, _⟩ := h.boxes k ms hms
                  have he' : w.heap.size = g.bet k := he
                  rw [← he', Array.getElem?_eq_none (Nat.le_refl _)] at hheap
                  cases hheap
                · by_cases hee : e' = atom n 0
                  · simp [hee]
                  · have hLe : s.L e' = true := by
                      have : upd s.L (atom n 0) true e' = true := he'
                      rwa [upd_ne _ _ hee] at this
                    have hbe' : w.heap.size ∈ g.lam e' := by
                      have : w.heap.size ∈ upd g.lam (atom n 0) [w.heap.size] e' := hbe
                      rwa [upd_ne _ _ hee] at this
                    have := open_lt (h.live e' hLe _ hbe').2
                    omega
              · obtain ⟨p1, p2, p3⟩ := hfok b hb
                exact ⟨p1, fun e he hbe => List.mem_cons_of_mem _ (hdsub e (p2 e he hbe)), p3⟩
            · have hok : ok = true := by
                cases ok with
                | true => rfl
                | false => simp at ho
              exact (hC1.fps_own hal1 (r7 rfl hok)).1
            · have hok : ok = true := by
                cases ok with
                | true => rfl
                | false => simp at ho
              rcases List.mem_cons.1 hb with hb | hb
              · subst hb
                exact ⟨atom n 0, by simp, by show w.heap.size ∈ upd g.lam (atom n 0) [w.heap.size] (atom n 0); simp [upd_same]⟩
              · obtain ⟨e, he, hbe⟩ := (hC1.fps_own hal1 (r7 rfl hok)).2 b hb
                exact ⟨e, List.mem_cons_of_mem _ (hdsub e he), hbe⟩
            · simp only [List.cons.injEq] at hbr
              obtain ⟨rfl, rfl⟩ := hbr
              exact ⟨fun hb => absurd (hold _ hb) (by omega), atom n 0, ds, rfl, by show w.heap.size ∈ upd g.lam (atom n 0) [w.heap.size] (atom n 0); simp [upd_same]⟩
          · simp only [List.mem_cons] at he'
            show upd s.U (atom n 0) true e' = true
            rcases he' with rfl | he'
            · rw [upd_same]
            · have := rowsM_used h ps.toList l ds ok hl hrm e' he'
              rw [upd_ne _ _ (hne e' this)]; exact this
      · cases h2
    · cases h2
  · cases h1
end
end Go.Opt
/- An operation that its guard does not want: its variable holds nothing. -/
set_option linter.unusedVariables false
namespace Go.Opt
open Go.RowKit

section
variable {P : Program} {F : Frm} {s : SS} {σ : S} {a : Act} {w : World} {g : Gh} {Φ : Cl'} {G : Nat → Option Sg} {ro : List Nat} {gd : Option (Nat × Bool)} {σ1 : S} {s1 : SS}

theorem undef_no_bool : ∀ b, (undef : Value) ≠ .bool b := by intro b h; cases h

theorem Inv.skip_put (h : Inv F s σ a w g) {d : Option Nat} (hd : ∀ k, d = some k → k < F.n) {m : M} (hm : ∀ e ∈ m.deps, s.U e = true) : Inv F (s.put d m) (σ.put d .undef) (a.put d undef) w g :=
  h.putD hd (TOK_undef _ _ _ undef_no_bool) hm

theorem Inv.skip_putA (h : Inv F s σ a w g) {d : Option Nat} (hd : ∀ k, d = some k → k < F.n) {m : M} {r : Place} {l : PathX} (hm : ∀ e ∈ m.deps, s.U e = true) : Inv F (s.putA d m (some (r, l))) (σ.put d .undef) (a.put d undef) w g :=
  h.putA hd (TOK_undef _ _ _ undef_no_bool) hm fun hne => absurd rfl hne

theorem Inv.skip_putP (h : Inv F s σ a w g) {d : Option Nat} (hd : ∀ k, d = some k → k < F.n) {q : Ptr} (hav : avoids d q gd = true) (hng : ¬ guardHolds σ gd) : Inv F (s.putP d (q, gd)) (σ.put d .undef) (a.put d undef) w g :=
  h.putP hd hav fun hg => absurd hg hng

/-- A class without memory. -/
theorem Inv.freshen (h : Inv F s σ a w g) {e0 : Nat} (he0 : s.U e0 = false) : Inv F { s with L := upd s.L e0 true, U := upd s.U e0 true } σ a w { g with lam := upd g.lam e0 [] } := by
  have hne : ∀ e, s.U e = true → e ≠ e0 := fun e he h => by rw [h, he0] at he; cases he
  have hmv : Mv F s { s with L := upd s.L e0 true, U := upd s.U e0 true } σ σ a a w w g { g with lam := upd g.lam e0 [] } (fun _ => False) (fun _ => False) (fun _ => False) := by
    refine ⟨Nat.le_refl _, rfl, rfl, rfl, rfl, fun e he hu => ?_, fun e he hu b hb => ?_, fun _ _ _ _ => rfl, fun k hk _ => ⟨hk, rfl⟩, fun k _ hN => hN.elim, fun k hk => hk.elim, fun k _ => ⟨rfl, rfl, rfl⟩, fun k _ _ => ⟨rfl, rfl⟩, fun e he => ?_⟩
    · have : upd s.L e0 true e = true := he
      rw [upd_ne _ _ (hne e hu)] at this
      exact ⟨this, upd_ne _ _ (hne e hu)⟩
    · by_cases h' : e = e0
      · subst h'
        have : b ∈ upd g.lam e [] e := hb
        rw [upd_same] at this; cases this
      · have : upd s.L e0 true e = true := he
        rw [upd_ne _ _ h'] at this
        have := h.used e this; rw [hu] at this; cases this
    · show upd s.U e0 true e = true
      rw [upd_ne _ _ (hne e he)]; exact he
  have hnew : ∀ e, upd s.L e0 true e = true → s.U e = false → e = e0 := by
    intro e he hu
    by_cases h' : e = e0
    · exact h'
    · rw [upd_ne _ _ h'] at he
      have := h.used e he; rw [hu] at this; cases this
  refine h.mv hmv h.size h.defers (fun e he hu => ?_) (fun e e' he he' hu hu' hee => absurd ((hnew e he hu).trans (hnew e' he' hu').symm) hee) (fun k hk => hk.elim) (fun k ms hk => (hk.elim id id).elim) (fun k hk => hk.elim) (fun k k' hk => hk.elim)
    (fun k q gd' hk => .inl ⟨hk, id, fun _ _ => id, fun _ _ => id, fun _ _ => ⟨id, id⟩, fun _ _ _ => ⟨id, id⟩⟩) (fun k p q hk => .inl ⟨hk, id, fun _ _ => id, fun _ _ => id, fun _ _ => ⟨id, id⟩⟩) (fun i k _ hk => (hk.elim id id).elim) (fun k hk => hk.elim)
  have := hnew e he hu
  subst this
  refine ⟨fun b hb => ?_, upd_same _ _ _⟩
  have : b ∈ upd g.lam e [] e := hb
  rw [upd_same] at this; cases this

theorem Inv.XM_used (h : Inv F s σ a w g) (x : X) : ∀ e ∈ (XM s x).deps, s.U e = true := by
  cases x with
  | t n => exact h.usedT n
  | _ => simp [XM, M.deps, CM.free]

theorem Inv.partsM_used (h : Inv F s σ a w g) : ∀ (l : List (Nat × Nat × X)) (ms ms' : List CM), partsM s l ms = some ms' → (∀ m ∈ ms, ∀ e ∈ m.deps, s.U e = true) → ∀ m ∈ ms', ∀ e ∈ m.deps, s.U e = true
  | [], ms, ms', h1, hU => by simp only [partsM, Option.some.injEq] at h1; subst h1; exact hU
  | (off, n, x) :: r, ms, ms', h1, hU => by
    simp only [partsM] at h1
    split at h1
    · rename_i qs hqs
      split at h1
      · refine h.partsM_used r _ ms' h1 fun m hm e he => ?_
        rcases layM_deps m hm e he with ⟨q, hq, hqe⟩ | ⟨q, hq, hqe⟩
        · exact hU q hq e hqe
        · exact h.XM_used x e (M.cells_deps hqs q hq e hqe)
      · cases h1
    · cases h1

theorem Inv.rowsM_used' (h : Inv F s σ a w g) {sz : Nat} : ∀ (l : List (Nat × X)) (ds : List Nat) (ok : Bool), rowsM s sz l = some (ds, ok) → ∀ e ∈ ds, s.U e = true
  | [], ds, ok, h2 => by
    simp only [rowsM, Option.some.injEq, Prod.mk.injEq] at h2
    rw [← h2.1]; simp
  | (i, x) :: r, ds, ok, h2 => by
    simp only [rowsM] at h2
    split at h2
    · rename_i qs ds' ok' hqs hrow
      split at h2
      · simp only [Option.some.injEq, Prod.mk.injEq] at h2
        intro e he
        rw [← h2.1] at he
        rcases List.mem_append.1 he with he | he
        · obtain ⟨q, hq, hqe⟩ := List.mem_flatMap.1 he
          exact h.XM_used x e (M.cells_deps hqs q hq e hqe)
        · exact h.rowsM_used' r ds' ok' hrow e he
      · cases h2
    · cases h2

theorem oneOrAggM_deps {agg : Bool} {ms : List CM} {m : M} (h : oneOrAggM agg ms = some m) : ∀ e ∈ m.deps, ∃ q ∈ ms, e ∈ q.deps := by
  unfold oneOrAggM at h
  split at h
  · cases h; simp only [M.deps, List.mem_flatMap]; exact fun e he => he
  · split at h
    · rename_i q; cases h; exact fun e he => ⟨q, by simp, he⟩
    · cases h

/-- What is not wanted, calls apart. -/
theorem skip_ok (h : Inv F s σ a w g) {d : Option Nat} (hd : ∀ k, d = some k → k < F.n) {o : O} (hng : ¬ guardHolds σ gd) (hcall : ∀ f as, o ≠ .call f as) (h2 : sstep G ro gd d o s = some s1) (hgd : guardable s s1 o = true) :
    ∃ g1, Inv F s1 (σ.put d .undef) (a.put d undef) w g1 := by
  cases o <;> simp only [guardable] at hgd <;> first | (exact absurd rfl (hcall _ _)) | (cases hgd; done) | skip
  all_goals simp only [sstep] at h2
  case mov x =>
    split at h2
    · cases h2
    · rename_i hne
      cases x with
      | t n =>
        simp only [Option.some.injEq] at h2
        subst h2
        cases han : s.a n with
        | none => exact ⟨g, h.skip_putA hd (h.XM_used (.t n))⟩
        | some q => exact ⟨g, h.skip_putA hd (h.XM_used (.t n))⟩
      | int k v => simp only [Option.some.injEq] at h2; subst h2; exact ⟨g, h.skip_put hd (h.XM_used (.int k v))⟩
      | bool v => simp only [Option.some.injEq] at h2; subst h2; exact ⟨g, h.skip_put hd (h.XM_used (.bool v))⟩
      | str v => simp only [Option.some.injEq] at h2; subst h2; exact ⟨g, h.skip_put hd (h.XM_used (.str v))⟩
      | nil v => simp only [Option.some.injEq] at h2; subst h2; exact ⟨g, h.skip_put hd (h.XM_used (.nil v))⟩
  case adr src off q =>
    split at h2
    · cases h2
    · simp only [Option.ite_none_right_eq_some, Option.some.injEq] at h2
      obtain ⟨⟨_, _, hav⟩, rfl⟩ := h2
      exact ⟨g, h.skip_putP hd hav hng⟩
  case iadr sz x i q =>
    split at h2
    · simp only [Option.ite_none_right_eq_some, Option.some.injEq] at h2
      obtain ⟨⟨_, _, hav⟩, rfl⟩ := h2
      exact ⟨g, h.skip_putP hd hav hng⟩
    · cases h2
  case pick c x y =>
    split at h2
    · split at h2
      · rename_i m n e1 e2
        split at h2
        · cases h2
          refine ⟨g, h.skip_put hd fun e he => ?_⟩
          simp only [M.deps, List.mem_append] at he
          rcases he with he | he
          · exact h.XM_used x e (by rw [e1]; exact he)
          · exact h.XM_used y e (by rw [e2]; exact he)
        · cases h2
      · cases h2; exact ⟨g, h.skip_put hd (by simp [M.deps])⟩
    · cases h2
  case build ks parts =>
    obtain ⟨ms, hms, rfl⟩ := Option.map_eq_some_iff.1 h2
    refine ⟨g, h.skip_put hd fun e he => ?_⟩
    simp only [M.deps, List.mem_flatMap] at he
    obtain ⟨q, hq, hqe⟩ := he
    exact h.partsM_used parts _ ms hms (fun m hm e he => by obtain ⟨_, _, rfl⟩ := List.mem_map.1 hm; simp [CM.free] at he) q hq e hqe
  case bslice ks len parts =>
    split at h2
    · rename_i n ds ok hds
      split at h2
      · rename_i s0 hfr
        cases h2
        obtain ⟨hU0, rfl⟩ := fresh_spec hfr
        refine ⟨_, (h.freshen hU0).skip_put hd fun e he => ?_⟩
        show upd s.U (atom n 0) true e = true
        by_cases h' : e = atom n 0
        · rw [h', upd_same]
        · rw [upd_ne _ _ h']
          simp only [M.deps, List.mem_cons] at he
          exact h.rowsM_used' parts ds ok hds e (he.resolve_left h')
      · cases h2
    · cases h2
  case ldB agg ks x b off =>
    split at h2
    · split at h2
      · rename_i ms hms
        split at h2
        · obtain ⟨m, hm, rfl⟩ := Option.map_eq_some_iff.1 h2
          refine ⟨g, h.skip_putA hd fun e he => ?_⟩
          obtain ⟨q, hq, hqe⟩ := oneOrAggM_deps hm e he
          exact h.usedB b ms hms q (List.mem_of_mem_drop (List.mem_of_mem_take hq)) e hqe
        · cases h2
      · cases h2
    · cases h2
  case ldE agg ks x p q =>
    split at h2
    · split at h2
      · rename_i m hm
        split at h2
        · obtain ⟨md, hmd, rfl⟩ := Option.map_eq_some_iff.1 h2
          refine ⟨g, h.skip_putA hd fun e he => ?_⟩
          obtain ⟨r, hr, hre⟩ := oneOrAggM_deps hmd e he
          obtain ⟨k, _, rfl⟩ := List.mem_map.1 hr
          split at hre
          · exact h.usedAt hm e hre
          · simp [CM.free] at hre
        · cases h2
      · cases h2
    · cases h2
  case field agg off n x =>
    split at h2
    · rename_i ms hms
      split at h2
      · obtain ⟨m, hm, rfl⟩ := Option.map_eq_some_iff.1 h2
        refine ⟨g, h.skip_put hd fun e he => ?_⟩
        obtain ⟨q, hq, hqe⟩ := oneOrAggM_deps hm e he
        refine h.XM_used x e ?_
        rw [hms]; simp only [M.deps, List.mem_flatMap]
        exact ⟨q, List.mem_of_mem_drop (List.mem_of_mem_take hq), hqe⟩
      · cases h2
    · cases h2
  case extr x i =>
    split at h2
    · rename_i l hl
      split at h2
      · rename_i agg ms hli
        obtain ⟨m, hm, rfl⟩ := Option.map_eq_some_iff.1 h2
        refine ⟨g, h.skip_put hd fun e he => ?_⟩
        obtain ⟨q, hq, hqe⟩ := oneOrAggM_deps hm e he
        refine h.XM_used x e ?_
        rw [hl]; simp only [M.deps, List.mem_flatMap]
        exact ⟨(agg, ms), List.mem_of_getElem? hli, q, hq, hqe⟩
      · cases h2
    · cases h2
  case slc sz x lo hi mx =>
    split at h2
    · rename_i m hm
      split at h2
      · cases h2
        exact ⟨g, h.skip_put hd fun e he => h.XM_used x e (by rw [hm]; exact he)⟩
      · cases h2
    · cases h2
  all_goals
    split at h2 <;> first | (cases h2; done) | skip
    all_goals first | (cases h2; exact ⟨g, h.skip_put hd (by simp [M.deps, CM.free])⟩) | skip
end
end Go.Opt
/- From the text's check to the operation's lemma. -/
set_option linter.unusedVariables false
namespace Go.Opt
open Go.RowKit

section
variable {P : Program} {F : Frm} {s : SS} {σ : S} {a : Act} {w : World} {g : Gh} {Φ : Cl'} {G : Nat → Option Sg} {ro : List Nat} {gd : Option (Nat × Bool)} {σ1 : S} {s1 : SS}

theorem normO_none {x : Option Operand} (h : normO P 0 x = some none) : x = none := by
  cases x with
  | none => rfl
  | some v => simp [normO] at h

theorem elemOf_eq {t e : TypeId} (h : elemOf P t = some e) : P.underlying t = some (.slice e) := by
  unfold elemOf at h
  split at h
  · rename_i hu; cases h; exact hu
  · cases h

theorem normO_some {x : Option Operand} {X : Option X} (h : normO P 0 x = some X) : X.isSome = x.isSome := by
  cases x with
  | none => simp only [normO, Option.some.injEq] at h; rw [← h]; rfl
  | some v =>
    simp only [normO, Option.map_eq_some_iff] at h
    obtain ⟨a, _, rfl⟩ := h
    rfl

theorem call_eq {c : Call} {b : Callee} {xs : List Operand} {ts : List TypeId} (h1 : c.callee = b) (h2 : c.args.toList = xs) (h3 : c.argTypes.toList = ts) : c = { callee := b, args := xs.toArray, argTypes := ts.toArray } := by
  cases c
  simp only at h1 h2 h3
  subst h1; subst h2; subst h3
  rfl

theorem fin_norm (h : Inv F s σ a w g) {o : Oper} (hd : ∀ k, o.dst = some k → k < F.n) {q : O} (hro : RoOK F a o.dst q) (hn : normOp P o.type o.op = some q)
    (h1 : step Φ o.dst q σ = some σ1) (h2 : sstep G ro gd o.dst q s = some s1) : Fin P F o s1 σ1 a w := by
  generalize ho : o.op = op at hn
  unfold normOp at hn
  split at hn
  · cases hn; exact fin_zap h hd ho h1 h2
  · obtain ⟨x, hx, rfl⟩ := Option.map_eq_some_iff.1 hn
    exact fin_mov h hd (.inl ho) hx h1 h2
  · obtain ⟨x, hx, rfl⟩ := Option.map_eq_some_iff.1 hn
    exact fin_mov h hd (.inr ho) hx h1 h2
  · split at hn
    · rename_i hc hx hy; cases hn; exact fin_pick h hd ho hc hx hy h1 h2
    · cases hn
  · obtain ⟨ks, hk, rfl⟩ := Option.map_eq_some_iff.1 hn
    exact fin_alloc h hd hro ho hk h1 h2
  · split at hn
    · rename_i hk hx; cases hn; exact fin_box h hd hro ho hx h1 h2
    · cases hn
  · split at hn
    · rename_i hag hk hl
      cases hn
      simp only [Bool.and_eq_true] at hag
      exact fin_build h hd ho hag.2 hk hl h1 h2
    · cases hn
  · split at hn
    · rename_i e he
      split at hn
      · rename_i ks l hk hl
        split at hn
        · rename_i hlen
          cases hn
          exact fin_bslice h hd ho (elemOf_eq he) hk hl hlen h1 h2
        · cases hn
      · cases hn
    · cases hn
  · -- binOp
    split at hn
    · rename_i hx hy
      split at hn
      · rename_i ht
        obtain ⟨n, hop, rfl⟩ := Option.map_eq_some_iff.1 hn
        exact fin_beq h hd ho hx hy ht hop h1 h2
      · rename_i ht
        split at hn
        · rename_i hop hk he; cases hn; exact fin_aeq h hd ho hx hy ht hop hk he h1 h2
        · cases hn
      · cases hn; exact fin_bin h hd ho hx hy h1 h2
      · cases hn; exact fin_bin h hd ho hx hy h1 h2
      · cases hn
    · cases hn
  · obtain ⟨x, hx, rfl⟩ := Option.map_eq_some_iff.1 hn
    simp only [step] at h1
    simp only [sstep] at h2
    exact fin_un h hd ho hx h1 h2
  · -- convert
    split at hn
    · rename_i hs hdt hx
      cases hn
      simp only [sstep] at h2
      exact fin_conv h hd ho hs hdt hx (by simpa only [step] using h1) h2
    · rename_i hs hdt hx
      split at hn
      · rename_i he; cases hn; exact fin_b2s h hd ho hx hs he hdt h1 h2
      · cases hn
    · cases hn
  · -- field
    split at hn
    · rename_i hf hx
      split at hn
      · rename_i hk; cases hn; exact fin_field h hd ho hx hf hk h1 h2
      · cases hn
    · cases hn
  · -- index
    split at hn
    · rename_i ht hx hi; cases hn; exact fin_sidx h hd ho ht hx hi h1 h2
    · cases hn
  · cases hn; exact fin_extr h hd ho h1 h2
  · -- slice
    split at hn
    · rename_i ht hx hlo hhi hmx
      cases hn
      have := normO_none hmx
      subst this
      exact fin_sslc h hd ho hx hlo hhi ht h1 h2
    · rename_i ht hx hlo hhi hmx
      split at hn
      · cases hn
      · rename_i hc
        cases hn
        simp only [Bool.or_eq_true, Bool.and_eq_true, not_or, not_and] at hc
        refine fin_slc h hd ho hx hlo hhi hmx ht ?_ ?_ h1 h2
        · cases hh : (P.info? _).isSome with
          | true => rfl
          | false => exact absurd (by simpa using hh) hc.1
        · intro hm
          rw [← normO_some hhi]
          rw [← normO_some hmx] at hm
          have := hc.2 hm
          rw [Option.isNone_iff_eq_none] at this
          exact Option.isSome_iff_ne_none.2 this
    · cases hn
  · -- makeSlice
    split at hn
    · rename_i he hl
      split at hn
      · rename_i hk
        split at hn
        · rename_i hsame; cases hn; exact fin_mks h hd ho hsame hl (elemOf_eq he) hk h1 h2
        · cases hn
      · cases hn
    · cases hn
  · -- builtins
    split at hn
    · rename_i hc hxs hts
      rw [call_eq hc hxs hts] at ho
      split at hn
      · rename_i ht
        obtain ⟨x, hx, rfl⟩ := Option.map_eq_some_iff.1 hn
        exact fin_len h hd ho hx ht h1 h2
      · rename_i ht
        obtain ⟨x, hx, rfl⟩ := Option.map_eq_some_iff.1 hn
        exact fin_slen h hd ho hx ht h1 h2
      · cases hn
    · rename_i hc hxs hts
      rw [call_eq hc hxs hts] at ho
      split at hn
      · rename_i he hx hy
        split at hn
        · rename_i hk
          split at hn
          · rename_i hu
            split at hn
            · rename_i hks; cases hn; subst hks; exact fin_apps h hd ho hx hy (elemOf_eq he) hk hu h1 h2
            · cases hn
          · rename_i hu
            split at hn
            · cases hn; exact fin_app h hd ho hx hy (elemOf_eq he) hk hu h1 h2
            · cases hn
          · cases hn
        · cases hn
      · cases hn
    · rename_i hc hxs hts
      rw [call_eq hc hxs hts] at ho
      split at hn
      · rename_i hx hy
        cases hn
        exact fin_mm (isMx := true) h hd ho hx hy h1 h2
      · cases hn
    · rename_i hc hxs hts
      rw [call_eq hc hxs hts] at ho
      split at hn
      · rename_i hx hy
        cases hn
        exact fin_mm (isMx := false) h hd ho hx hy h1 h2
      · cases hn
    · cases hn
  · cases hn

theorem isTmp_eq {x : Operand} {n : Nat} (h : isTmp x n = true) : x = .tmp n := by
  unfold isTmp at h
  split at h
  · simp only [beq_iff_eq] at h; subst h; rfl
  · cases h

theorem cellsOf_pos {t : TypeId} (h : 0 < P.cellsOf t) : (P.info? t).isSome = true := by
  unfold Program.cellsOf at h
  cases hi : P.info? t with
  | none => rw [hi] at h; simp at h
  | some i => rfl

def O.isStore : O → Bool
  | .stB .. | .stE .. => true
  | _ => false

/-- EVERY OPERATION BUT A CALL. -/
theorem fin_op {N : Names} (h : Inv F s σ a w g) {o : Oper} {d : Option Nat} {q : O} (hdq : o.dst = d) (hok : opOk P N o.type o.op q = true) (hst : q.isStore = true → d = none)
    (hg : guardHolds σ gd) (hd : ∀ k, d = some k → k < F.n) (hro : RoOK F a d q) (hroB : ∀ i k, (i, k) ∈ F.ro → k ∈ ro) (hc : ∀ f as, q ≠ .call f as)
    (h1 : step Φ d q σ = some σ1) (h2 : sstep G ro gd d q s = some s1) : Fin P F o s1 σ1 a w := by
  subst hdq
  unfold opOk at hok
  generalize ho : o.op = op at hok
  split at hok
  · rename_i x src off pt
    simp only [Bool.and_eq_true, beq_iff_eq] at hok
    obtain ⟨hx, rfl⟩ := hok
    have hx := isTmp_eq hx
    subst hx
    refine fin_adr h hd hg (fun b k hv => ?_) h1 h2
    have hev : a.eval (.tmp src) = _ := hv
    simp only [execOp, ho, hev, Sem.run_pure, Nat.add_zero]
  · rename_i x src off pt
    simp only [Bool.and_eq_true, beq_iff_eq] at hok
    obtain ⟨hx, rfl⟩ := hok
    have hx := isTmp_eq hx
    subst hx
    refine fin_adr h hd hg (fun b k hv => ?_) h1 h2
    have hev : a.eval (.tmp src) = _ := hv
    simp only [execOp, ho, hev, Sem.run_pure, Nat.add_zero]
  · rename_i x src off pt
    simp only [Bool.and_eq_true, beq_iff_eq] at hok
    obtain ⟨hx, rfl⟩ := hok
    have hx := isTmp_eq hx
    subst hx
    refine fin_adr h hd hg (fun b k hv => ?_) h1 h2
    have hev : a.eval (.tmp src) = _ := hv
    simp only [execOp, ho, hev, Sem.run_pure, Nat.add_zero]
  · rename_i st x i src off pt
    split at hok
    · rename_i f hf
      simp only [Bool.and_eq_true, beq_iff_eq, decide_eq_true_eq] at hok
      obtain ⟨⟨hx, rfl⟩, hpos⟩ := hok
      have hx := isTmp_eq hx
      subst hx
      refine fin_adr h hd hg (fun b k hv => ?_) h1 h2
      have hev : a.eval (.tmp src) = _ := hv
      unfold fieldOf at hf
      split at hf
      · rename_i fs hu
        have hne : ¬ (P.cellsOf f.type = 0) := by omega
        simp only [execOp, ho, hev, Instr.fieldAt, Sem.run_bind, run_underlying hu, Result.andThen_ok, hf, Instr.sureAddr, Sem.run_pure, fieldPlace, run_cellsOf (cellsOf_pos hpos), Sem.run_ite, if_neg hne, Addr.add_mid]
      · cases hf
    · cases hok
  · rename_i t x i sz y j pt
    split at hok
    · rename_i e he
      simp only [Bool.and_eq_true, beq_iff_eq] at hok
      obtain ⟨⟨⟨hx, hi⟩, rfl⟩, hie⟩ := hok
      exact fin_iadr h hd ho hx hi (elemOf_eq he) hie h1 h2
    · cases hok
  · rename_i t x agg ks a' b off
    simp only [Bool.and_eq_true, beq_iff_eq] at hok
    obtain ⟨⟨hx, hk⟩, rfl⟩ := hok
    have hx := isTmp_eq hx
    subst hx
    exact fin_ldB h hd hg ho hk h1 h2
  · rename_i t x agg ks a' p q
    simp only [Bool.and_eq_true, beq_iff_eq] at hok
    obtain ⟨⟨hx, hk⟩, rfl⟩ := hok
    have hx := isTmp_eq hx
    subst hx
    exact fin_ldE h hd hg ho hk h1 h2
  · rename_i t x v n a' b off y
    split at hok
    · rename_i ks hk
      simp only [Bool.and_eq_true, beq_iff_eq] at hok
      obtain ⟨⟨hx, rfl⟩, hv⟩ := hok
      have hx := isTmp_eq hx
      subst hx
      exact fin_stB h (hst rfl) hroB hg ho hv hk h1 h2
    · cases hok
  · rename_i t x v n a' p q y
    split at hok
    · rename_i ks hk
      simp only [Bool.and_eq_true, beq_iff_eq] at hok
      obtain ⟨⟨hx, rfl⟩, hv⟩ := hok
      have hx := isTmp_eq hx
      subst hx
      exact fin_stE h (hst rfl) hg ho hv hk h1 h2
    · cases hok
  · exact absurd rfl (hc _ _)
  · rename_i c _
    split at hok
    · simp only [beq_iff_eq] at hok
      rw [← ho] at hok
      exact fin_norm h hd hro hok h1 h2
    · cases hok
  · simp only [beq_iff_eq] at hok
    rw [← ho] at hok
    exact fin_norm h hd hro hok h1 h2
end
end Go.Opt
/- What a call hands over and gets back; what a function promises. -/
set_option linter.unusedVariables false
namespace Go.Opt
open Go.RowKit

/-- Cells that change hands. -/
structure Hand (w : World) (bs : List BM) (vs : List Value) (cs : List C) : Prop where
  lenV : vs.length = bs.length
  lenC : cs.length = bs.length
  each : ∀ (j : Nat) (v : Value) (c : C) (m : BM), vs[j]? = some v → cs[j]? = some c → bs[j]? = some m → Rep w v c ∧ (m = .sc → fp w v c = []) ∧ (m = .ow → (fp w v c).Nodup)
  apart : ∀ (i j : Nat) (v v' : Value) (c c' : C), i ≠ j → vs[i]? = some v → cs[i]? = some c → bs[i]? = some .ow → vs[j]? = some v' → cs[j]? = some c' → bs[j]? = some .ow → ∀ b ∈ fp w v c, b ∉ fp w v' c'

/-- The blocks of the cells that are handed over in one way. -/
def Blk (w : World) (k : BM) (bs : List BM) (vs : List Value) (cs : List C) (b : Nat) : Prop :=
  ∃ (j : Nat) (v : Value) (c : C), vs[j]? = some v ∧ cs[j]? = some c ∧ bs[j]? = some k ∧ b ∈ fp w v c

theorem getElem?_append_cases {α β γ : Type} {a1 a2 : List α} {b1 b2 : List β} {c1 c2 : List γ} (hb : b1.length = a1.length) (hc : c1.length = a1.length) {j : Nat} {x : α} {y : β} {z : γ}
    (h1 : (a1 ++ a2)[j]? = some x) (h2 : (b1 ++ b2)[j]? = some y) (h3 : (c1 ++ c2)[j]? = some z) :
    (a1[j]? = some x ∧ b1[j]? = some y ∧ c1[j]? = some z ∧ j < a1.length) ∨ (a2[j - a1.length]? = some x ∧ b2[j - a1.length]? = some y ∧ c2[j - a1.length]? = some z ∧ a1.length ≤ j) := by
  by_cases h : j < a1.length
  · left
    rw [List.getElem?_append_left h] at h1
    rw [List.getElem?_append_left (by omega)] at h2 h3
    exact ⟨h1, h2, h3, h⟩
  · right
    rw [List.getElem?_append_right (by omega)] at h1 h2 h3
    rw [hb] at h2
    rw [hc] at h3
    exact ⟨h1, h2, h3, by omega⟩

theorem Blk.append {w : World} {k : BM} {b1 b2 : List BM} {v1 v2 : List Value} {c1 c2 : List C} (hv : v1.length = b1.length) (hc : c1.length = b1.length) {b : Nat} :
    Blk w k (b1 ++ b2) (v1 ++ v2) (c1 ++ c2) b ↔ Blk w k b1 v1 c1 b ∨ Blk w k b2 v2 c2 b := by
  constructor
  · rintro ⟨j, v, c, h1, h2, h3, h4⟩
    rcases getElem?_append_cases hv hc h3 h1 h2 with ⟨q1, q2, q3, _⟩ | ⟨q1, q2, q3, _⟩
    · exact .inl ⟨j, v, c, q2, q3, q1, h4⟩
    · exact .inr ⟨_, v, c, q2, q3, q1, h4⟩
  · rintro (⟨j, v, c, h1, h2, h3, h4⟩ | ⟨j, v, c, h1, h2, h3, h4⟩)
    · have hj := (List.getElem?_eq_some_iff.1 h3).1
      exact ⟨j, v, c, by rw [List.getElem?_append_left (by omega)]; exact h1, by rw [List.getElem?_append_left (by omega)]; exact h2, by rw [List.getElem?_append_left (by omega)]; exact h3, h4⟩
    · refine ⟨j + b1.length, v, c, ?_, ?_, ?_, h4⟩
      · rw [List.getElem?_append_right (by omega), hv]; simpa using h1
      · rw [List.getElem?_append_right (by omega), hc]; simpa using h2
      · rw [List.getElem?_append_right (by omega)]; simpa using h3

theorem Hand.append {w : World} {b1 b2 : List BM} {v1 v2 : List Value} {c1 c2 : List C} (h1 : Hand w b1 v1 c1) (h2 : Hand w b2 v2 c2) (hap : ∀ b, Blk w .ow b1 v1 c1 b → ¬ Blk w .ow b2 v2 c2 b) : Hand w (b1 ++ b2) (v1 ++ v2) (c1 ++ c2) := by
  refine ⟨by simp [h1.lenV, h2.lenV], by simp [h1.lenC, h2.lenC], fun j v c m hv hc hm => ?_, fun i j v v' c c' hij hv hc hm hv' hc' hm' b hb hb' => ?_⟩
  · rcases getElem?_append_cases h1.lenV h1.lenC hm hv hc with ⟨q1, q2, q3, _⟩ | ⟨q1, q2, q3, _⟩
    · exact h1.each j v c m q2 q3 q1
    · exact h2.each _ v c m q2 q3 q1
  · rcases getElem?_append_cases h1.lenV h1.lenC hm hv hc with ⟨q1, q2, q3, q4⟩ | ⟨q1, q2, q3, q4⟩
    · rcases getElem?_append_cases h1.lenV h1.lenC hm' hv' hc' with ⟨r1, r2, r3, r4⟩ | ⟨r1, r2, r3, r4⟩
      · exact h1.apart i j v v' c c' hij q2 q3 q1 r2 r3 r1 b hb hb'
      · exact hap b ⟨i, v, c, q2, q3, q1, hb⟩ ⟨_, v', c', r2, r3, r1, hb'⟩
    · rcases getElem?_append_cases h1.lenV h1.lenC hm' hv' hc' with ⟨r1, r2, r3, r4⟩ | ⟨r1, r2, r3, r4⟩
      · exact hap b ⟨j, v', c', r2, r3, r1, hb'⟩ ⟨_, v, c, q2, q3, q1, hb⟩
      · exact h2.apart _ _ v v' c c' (by omega) q2 q3 q1 r2 r3 r1 b hb hb'

theorem Hand.nil (w : World) : Hand w [] [] [] := ⟨rfl, rfl, by simp, by simp⟩

/-! ### From modes to hands -/
theorem takeO_get {L : Nat → Bool} : ∀ {bs : List BM} {ms : List CM} {o : List Nat}, takeO L bs ms = some o →
    ms.length = bs.length ∧ ∀ (j : Nat) (k : BM) (m : CM), bs[j]? = some k → ms[j]? = some m → alive L m = true ∧ (k = .ow → 2 ≤ m.own ∧ ∀ e ∈ m.deps, e ∈ o) ∧ (k = .sh → ∀ e ∈ m.deps, e ∈ takeS bs ms) ∧ (k = .sc → 2 ≤ m.own ∧ m.deps = [])
  | [], [], o, h => ⟨rfl, by simp⟩
  | [], _ :: _, o, h => by simp [takeO] at h
  | .sc :: bs, [], o, h => by simp [takeO] at h
  | .sh :: bs, [], o, h => by simp [takeO] at h
  | .ow :: bs, [], o, h => by simp [takeO] at h
  | .ow :: bs, m :: ms, o, h => by
    simp only [takeO] at h
    split at h
    · rename_i l hl
      split at h
      · rename_i hc
        cases h
        obtain ⟨i1, i2⟩ := takeO_get hl
        refine ⟨by simp [i1], fun j k m' hk hm => ?_⟩
        cases j with
        | zero =>
          simp at hk hm; subst hk; subst hm
          exact ⟨hc.2, fun _ => ⟨hc.1, fun e he => by simp [he]⟩, fun h => (by cases h), fun h => (by cases h)⟩
        | succ j =>
          obtain ⟨q1, q2, q3, q4⟩ := i2 j k m' (by simpa using hk) (by simpa using hm)
          exact ⟨q1, fun h => ⟨(q2 h).1, fun e he => by simp [(q2 h).2 e he]⟩, fun h e he => by simpa [takeS] using q3 h e he, q4⟩
      · cases h
    · cases h
  | .sh :: bs, m :: ms, o, h => by
    simp only [takeO] at h
    split at h
    · rename_i l hl
      split at h
      · rename_i hc
        cases h
        obtain ⟨i1, i2⟩ := takeO_get hl
        refine ⟨by simp [i1], fun j k m' hk hm => ?_⟩
        cases j with
        | zero =>
          simp at hk hm; subst hk; subst hm
          exact ⟨hc, fun h => (by cases h), fun _ e he => by simp [takeS, he], fun h => (by cases h)⟩
        | succ j =>
          obtain ⟨q1, q2, q3, q4⟩ := i2 j k m' (by simpa using hk) (by simpa using hm)
          exact ⟨q1, q2, fun h e he => by simp [takeS, q3 h e he], q4⟩
      · cases h
    · cases h
  | .sc :: bs, m :: ms, o, h => by
    simp only [takeO] at h
    split at h
    · rename_i l hl
      split at h
      · rename_i hc
        cases h
        obtain ⟨i1, i2⟩ := takeO_get hl
        refine ⟨by simp [i1], fun j k m' hk hm => ?_⟩
        cases j with
        | zero =>
          simp at hk hm; subst hk; subst hm
          exact ⟨by simp [alive, hc.2], fun h => (by cases h), fun h => (by cases h), fun _ => hc⟩
        | succ j =>
          obtain ⟨q1, q2, q3, q4⟩ := i2 j k m' (by simpa using hk) (by simpa using hm)
          exact ⟨q1, q2, fun h e he => by simpa [takeS] using q3 h e he, q4⟩
      · cases h
    · cases h

theorem takeO_alive {L : Nat → Bool} : ∀ {bs : List BM} {ms : List CM} {o : List Nat}, takeO L bs ms = some o → ∀ e ∈ o, L e = true
  | [], [], o, h => by simp [takeO] at h; subst h; simp
  | [], _ :: _, o, h => by simp [takeO] at h
  | .sc :: bs, [], o, h => by simp [takeO] at h
  | .sh :: bs, [], o, h => by simp [takeO] at h
  | .ow :: bs, [], o, h => by simp [takeO] at h
  | .ow :: bs, m :: ms, o, h => by
    simp only [takeO] at h
    split at h
    · rename_i l hl
      split at h
      · rename_i hc
        cases h
        intro e he
        rcases List.mem_append.1 he with he | he
        · have := hc.2; simp only [alive, List.all_eq_true] at this; exact this e he
        · exact takeO_alive hl e he
      · cases h
    · cases h
  | .sh :: bs, m :: ms, o, h => by
    simp only [takeO] at h
    split at h
    · rename_i l hl
      split at h
      · cases h; exact takeO_alive hl
      · cases h
    · cases h
  | .sc :: bs, m :: ms, o, h => by
    simp only [takeO] at h
    split at h
    · rename_i l hl
      split at h
      · cases h; exact takeO_alive hl
      · cases h
    · cases h

theorem takeS_alive {L : Nat → Bool} {bs : List BM} {ms : List CM} {o : List Nat} (h : takeO L bs ms = some o) : ∀ e ∈ takeS bs ms, L e = true := by
  have key : ∀ (bs : List BM) (ms : List CM), (∀ (j : Nat) (m : CM), bs[j]? = some BM.sh → ms[j]? = some m → alive L m = true) → ∀ e ∈ takeS bs ms, L e = true := by
    intro bs
    induction bs with
    | nil => intro ms _; simp [takeS]
    | cons k bs ih =>
      intro ms hh
      cases ms with
      | nil => cases k <;> simp [takeS]
      | cons m ms =>
        have ih' := ih ms fun j m' h1 h2 => hh (j + 1) m' (by simpa using h1) (by simpa using h2)
        cases k with
        | sh =>
          simp only [takeS]
          intro e he
          rcases List.mem_append.1 he with he | he
          · have := hh 0 m (by simp) (by simp)
            simp only [alive, List.all_eq_true] at this; exact this e he
          · exact ih' e he
        | sc => simpa only [takeS] using ih'
        | ow => simpa only [takeS] using ih'
  exact key bs ms fun j m h1 h2 => ((takeO_get h).2 j .sh m h1 h2).1

/-- Cells of known modes, handed over: the owned blocks lie in the classes that are given away, the shared ones in none but those that are named. -/
theorem take_hand {x : Cx} {bs : List BM} {vs : List Value} {cs : List C} {ms : List CM} {o : List Nat} (h : CellsOK x vs cs ms) (ht : takeO x.L bs ms = some o) :
    Hand x.w bs vs cs ∧ (∀ b, Blk x.w .ow bs vs cs b → (∃ e ∈ o, x.L e = true ∧ b ∈ x.g.lam e) ∧ (∀ k, x.bx k = true → b ≠ x.g.bet k) ∧ x.g.rch b) ∧
    (∀ b, Blk x.w .sh bs vs cs b → (∀ e, x.L e = true → b ∈ x.g.lam e → e ∈ takeS bs ms) ∧ (∀ k, x.bx k = true → b ≠ x.g.bet k) ∧ x.g.rch b) := by
  obtain ⟨hl, hg⟩ := takeO_get ht
  have hv := h.lenV
  have hc := h.lenC
  have hm : ∀ {j : Nat} {k : BM}, bs[j]? = some k → ∃ m, ms[j]? = some m := by
    intro j k hk
    have := (List.getElem?_eq_some_iff.1 hk).1
    exact ⟨_, List.getElem?_eq_getElem (by omega)⟩
  refine ⟨⟨by omega, by omega, fun j v c k h1 h2 h3 => ?_, fun i j v v' c c' hij h1 h2 h3 h4 h5 h6 b => ?_⟩, fun b hb => ?_, fun b hb => ?_⟩
  · obtain ⟨m, hmj⟩ := hm h3
    obtain ⟨q1, q2, q3, q4⟩ := hg j k m h3 hmj
    obtain ⟨hR, f1, f2, f3⟩ := (h.each j v c m h1 h2 hmj).2 q1
    refine ⟨hR, fun hk => ?_, fun hk => ((f2 (q2 hk).1).1)⟩
    obtain ⟨h7, h8⟩ := q4 hk
    have := (f2 h7).2
    rw [h8] at this
    cases hfp : fp x.w v c with
    | nil => rfl
    | cons b r =>
      obtain ⟨e, he, _⟩ := this b (by rw [hfp]; simp)
      cases he
  · obtain ⟨m, hmi⟩ := hm h3
    obtain ⟨m', hmj⟩ := hm h6
    obtain ⟨q1, q2, _⟩ := hg i _ m h3 hmi
    obtain ⟨r1, r2, _⟩ := hg j _ m' h6 hmj
    exact h.apart i j v v' c c' m m' hij h1 h2 hmi h4 h5 hmj (q2 rfl).1 (r2 rfl).1 q1 r1 b
  · obtain ⟨j, v, c, h1, h2, h3, h4⟩ := hb
    obtain ⟨m, hmj⟩ := hm h3
    obtain ⟨q1, q2, _⟩ := hg j _ m h3 hmj
    obtain ⟨hR, f1, f2, f3⟩ := (h.each j v c m h1 h2 hmj).2 q1
    obtain ⟨g1, _, g3⟩ := f1 b h4
    obtain ⟨e, he, hbe⟩ := (f2 (q2 rfl).1).2 b h4
    exact ⟨⟨e, (q2 rfl).2 e he, takeO_alive ht e ((q2 rfl).2 e he), hbe⟩, g1, g3⟩
  · obtain ⟨j, v, c, h1, h2, h3, h4⟩ := hb
    obtain ⟨m, hmj⟩ := hm h3
    obtain ⟨q1, _, q3, _⟩ := hg j _ m h3 hmj
    obtain ⟨hR, f1, f2, f3⟩ := (h.each j v c m h1 h2 hmj).2 q1
    obtain ⟨g1, g2, g3⟩ := f1 b h4
    exact ⟨fun e he hbe => q3 rfl e (g2 e he hbe), g1, g3⟩

/-! ### From hands to modes -/
/-- The mode of a cell that is taken over under a name. -/
def BM.mode (sh : List Nat) (e : Nat) : BM → CM
  | .sc => .free
  | .sh => ⟨sh, 0⟩
  | .ow => ⟨[e], 2⟩

theorem hand_cells {x : Cx} {sh : List Nat} {bs : List BM} {vs : List Value} {cs : List C} {ns : List Nat} {ms : List CM} (h : Hand x.w bs vs cs) (hn : ns.length = bs.length) (hms : ms = (ns.zip bs).map fun q => q.2.mode sh q.1)
    (how : ∀ (j : Nat) (v : Value) (c : C) (e : Nat), vs[j]? = some v → cs[j]? = some c → bs[j]? = some .ow → ns[j]? = some e → ∀ b ∈ fp x.w v c, b ∈ x.g.lam e ∧ ∀ e', x.L e' = true → b ∈ x.g.lam e' → e' = e)
    (hsh : ∀ b, Blk x.w .sh bs vs cs b → ∀ e, x.L e = true → b ∈ x.g.lam e → e ∈ sh)
    (hbx : ∀ b k, Blk x.w k bs vs cs b → (∀ i, x.bx i = true → b ≠ x.g.bet i) ∧ x.g.rch b) : CellsOK x vs cs ms := by
  have hl : ms.length = bs.length := by rw [hms]; simp [hn]
  have hmj : ∀ {j : Nat} {m : CM}, ms[j]? = some m → ∃ e k, ns[j]? = some e ∧ bs[j]? = some k ∧ m = k.mode sh e := by
    intro j m hm
    rw [hms, List.getElem?_map] at hm
    obtain ⟨⟨e, k⟩, hq, rfl⟩ := Option.map_eq_some_iff.1 hm
    rw [List.getElem?_zip_eq_some] at hq
    exact ⟨e, k, hq.1, hq.2, rfl⟩
  refine ⟨by rw [h.lenV, hl], by rw [h.lenC, hl], fun j v c m hv hc hm => ?_, fun i j v v' c c' m m' hij hv hc hm hv' hc' hm' ho ho' _ _ b hb => ?_⟩
  · obtain ⟨e, k, he, hk, rfl⟩ := hmj hm
    obtain ⟨hR, h1, h2⟩ := h.each j v c k hv hc hk
    refine ⟨hR.hd, fun _ => ⟨hR, ?_⟩⟩
    have hB : ∀ b ∈ fp x.w v c, Blk x.w k bs vs cs b := fun b hb => ⟨j, v, c, hv, hc, hk, hb⟩
    cases k with
    | sc => rw [h1 rfl]; exact FpOK.nil x _
    | sh =>
      refine ⟨fun b hb => ⟨(hbx b _ (hB b hb)).1, hsh b (hB b hb), (hbx b _ (hB b hb)).2⟩, fun h => ?_, fun h => ?_⟩
      · simp [BM.mode] at h
      · simp [BM.mode] at h
    | ow =>
      refine ⟨fun b hb => ⟨(hbx b _ (hB b hb)).1, fun e' he' hbe => ?_, (hbx b _ (hB b hb)).2⟩, fun _ => ⟨h2 rfl, fun b hb => ⟨e, by simp [BM.mode], (how j v c e hv hc hk he b hb).1⟩⟩, fun h => ?_⟩
      · simp only [BM.mode, List.mem_singleton]; exact (how j v c e hv hc hk he b hb).2 e' he' hbe
      · simp [BM.mode] at h
  · obtain ⟨e, k, he, hk, rfl⟩ := hmj hm
    obtain ⟨e', k', he', hk', rfl⟩ := hmj hm'
    cases k with
    | sc => rw [(h.each i v c _ hv hc hk).2.1 rfl] at hb; cases hb
    | sh => simp [BM.mode] at ho
    | ow =>
      cases k' with
      | sc => rw [(h.each j v' c' _ hv' hc' hk').2.1 rfl]; simp
      | sh => simp [BM.mode] at ho'
      | ow => exact h.apart i j v v' c c' hij hv hc hk hv' hc' hk' b hb

theorem CellsOK.splitL {x : Cx} {v1 v2 : List Value} {c1 c2 : List C} {m1 m2 : List CM} (h : CellsOK x (v1 ++ v2) (c1 ++ c2) (m1 ++ m2)) (hv : v1.length = m1.length) (hc : c1.length = m1.length) : CellsOK x v1 c1 m1 := by
  have L : ∀ {α : Type} {a b : List α} {j : Nat} {y : α}, a[j]? = some y → (a ++ b)[j]? = some y := by
    intro α a b j y hy
    rw [List.getElem?_append_left (List.getElem?_eq_some_iff.1 hy).1]; exact hy
  exact ⟨hv, hc, fun j v c m q1 q2 q3 => h.each j v c m (L q1) (L q2) (L q3), fun i j v v' c c' m m' hij q1 q2 q3 r1 r2 r3 => h.apart i j v v' c c' m m' hij (L q1) (L q2) (L q3) (L r1) (L r2) (L r3)⟩

theorem CellsOK.splitR {x : Cx} {v1 v2 : List Value} {c1 c2 : List C} {m1 m2 : List CM} (h : CellsOK x (v1 ++ v2) (c1 ++ c2) (m1 ++ m2)) (hv : v1.length = m1.length) (hc : c1.length = m1.length) : CellsOK x v2 c2 m2 := by
  have L : ∀ {α : Type} {a b : List α} {j n : Nat} {y : α}, a.length = n → b[j]? = some y → (a ++ b)[n + j]? = some y := by
    intro α a b j n y hn hy
    rw [List.getElem?_append_right (by omega), hn]; simpa using hy
  have hV := h.lenV
  have hC := h.lenC
  simp only [List.length_append] at hV hC
  exact ⟨by omega, by omega, fun j v c m q1 q2 q3 => h.each (m1.length + j) v c m (L hv q1) (L hc q2) (L rfl q3),
    fun i j v v' c c' m m' hij q1 q2 q3 r1 r2 r3 => h.apart (m1.length + i) (m1.length + j) v v' c c' m m' (by omega) (L hv q1) (L hc q2) (L rfl q3) (L hv r1) (L hc r2) (L rfl r3)⟩

/-! ### Arguments and results -/
def Arg.cells : Arg → List C
  | .c x => [x]
  | .agg xs => xs
  | .ptr cs => cs
def RV.cells : RV → List C
  | .c x => [x]
  | .agg xs => xs
  | .ptr cs => cs
  | .tup _ => []

/-- The cells behind a pointer; its block. -/
def ptrVs (w : World) : Value → List Value
  | .pointer (some ad) => match rowOf w ad.block with
    | some c => c.toList
    | none => []
  | _ => []
def ptrBlk : Value → List Nat
  | .pointer (some ad) => [ad.block]
  | _ => []
def IsPtr (w : World) (v : Value) : Prop := ∃ b cells t, v = .pointer (some ⟨b, 0, none⟩) ∧ w.heap[b]? = some (.cells cells t (0, 0))

def AM.vals (w : World) : AM → Value → List Value
  | .p _ _, u => ptrVs w u
  | _, u => u.cells.toList
def AM.blk : AM → Value → List Nat
  | .p _ _, u => ptrBlk u
  | _, _ => []

def ArgShape (w : World) : AM → Arg → Value → Prop
  | .v _, .c _, v => ∀ vs, v ≠ .agg vs
  | .v _, .agg _, v => ∃ vs, v = .agg vs
  | .p _ _, .ptr _, v => IsPtr w v
  | _, _, _ => False
def ArgShapes (w : World) : List AM → List Arg → List Value → Prop
  | [], [], [] => True
  | m :: ms, a :: as, v :: vs => (ArgShape w m a v ∧ (m.vals w v).length = m.ins.length ∧ a.cells.length = m.ins.length) ∧ ArgShapes w ms as vs
  | _, _, _ => False

def argBs (ms : List AM) : List BM := ms.flatMap AM.ins
def argVs (w : World) : List AM → List Value → List Value
  | m :: ms, v :: vs => m.vals w v ++ argVs w ms vs
  | _, _ => []
def argCs (as : List Arg) : List C := as.flatMap Arg.cells
def argBx : List AM → List Value → List Nat
  | m :: ms, v :: vs => m.blk v ++ argBx ms vs
  | _, _ => []

/-- Structs where structs are expected. -/
def AggShapes : List Bool → List Arg → Prop
  | [], [] => True
  | g :: gs, .c _ :: as => g = false ∧ AggShapes gs as
  | g :: gs, .agg _ :: as => g = true ∧ AggShapes gs as
  | _ :: gs, .ptr _ :: as => AggShapes gs as
  | _, _ => False

structure Entry (w : World) (gs : List Bool) (ms : List AM) (args : List Arg) (vals : List Value) : Prop where
  shape : ArgShapes w ms args vals
  aggs : AggShapes gs args
  hand : Hand w (argBs ms) (argVs w ms vals) (argCs args)
  own : ∀ b, Blk w .ow (argBs ms) (argVs w ms vals) (argCs args) b → open? w b ∧ ¬ Blk w .sh (argBs ms) (argVs w ms vals) (argCs args) b
  nodup : (argBx ms vals).Nodup
  boxes : ∀ b ∈ argBx ms vals, ∀ k, ¬ Blk w k (argBs ms) (argVs w ms vals) (argCs args) b

/-- What is changed through pointers: its cells behind the call. -/
def OutShapes (w : World) : List AM → List Value → List (List C) → Prop
  | [], [], [] => True
  | .v _ :: ms, _ :: vs, outs => OutShapes w ms vs outs
  | .p _ bs :: ms, v :: vs, cs :: outs => IsPtr w v ∧ cs.length = bs.length ∧ (ptrVs w v).length = bs.length ∧ OutShapes w ms vs outs
  | _, _, _ => False
def outBs (ms : List AM) : List BM := ms.flatMap AM.outs
def outVs (w : World) : List AM → List Value → List Value
  | .p _ _ :: ms, v :: vs => ptrVs w v ++ outVs w ms vs
  | _ :: ms, _ :: vs => outVs w ms vs
  | _, _ => []

def RM.vals (w : World) : RM → Value → List Value
  | .p _, u => ptrVs w u
  | .v _ _, u => u.cells.toList
def RM.blk : RM → Value → List Nat
  | .p _, u => ptrBlk u
  | .v _ _, _ => []
/-- 'n': how large the heap was before. -/
def ResShape (n : Nat) (w : World) : RM → RV → Value → Prop
  | .v agg bs, .c _, v => agg = false ∧ bs.length = 1 ∧ ∀ vs, v ≠ .agg vs
  | .v agg bs, .agg cs, v => agg = true ∧ cs.length = bs.length ∧ ∃ vs, v = .agg vs ∧ vs.size = bs.length
  | .p bs, .ptr cs, v => IsPtr w v ∧ cs.length = bs.length ∧ (ptrVs w v).length = bs.length ∧ ∀ b ∈ ptrBlk v, n ≤ b
  | _, _, _ => False
def ResShapes (n : Nat) (w : World) : List RM → List RV → List Value → Prop
  | [], [], [] => True
  | m :: ms, r :: rs, v :: vs => ResShape n w m r v ∧ ResShapes n w ms rs vs
  | _, _, _ => False
def resBs (ms : List RM) : List BM := ms.flatMap RM.modes
def resVs (w : World) : List RM → List Value → List Value
  | m :: ms, v :: vs => m.vals w v ++ resVs w ms vs
  | _, _ => []
def resCs (rs : List RV) : List C := rs.flatMap RV.cells
def resBx : List RM → List Value → List Nat
  | m :: ms, v :: vs => m.blk v ++ resBx ms vs
  | _, _ => []

/-- What is true behind the call. 'rvs', 'rs': the results, one by one. -/
structure Exit' (w w' : World) (sg : Sg) (args : List Arg) (vals : List Value) (outs : List (List C)) (rvs : List RV) (rs : List Value) : Prop where
  os : w'.os = w.os
  tape : w'.tape = w.tape
  output : w'.output = w.output
  size : w.heap.size ≤ w'.heap.size
  block : ∀ b, b < w.heap.size → ¬ Blk w .ow (argBs sg.args) (argVs w sg.args vals) (argCs args) b → b ∉ argBx sg.args vals → w'.heap[b]? = w.heap[b]?
  oshape : OutShapes w' sg.args vals outs
  rshape : ResShapes w.heap.size w' sg.res rvs rs
  hand : Hand w' (outBs sg.args ++ resBs sg.res) (outVs w' sg.args vals ++ resVs w' sg.res rs) (outs.flatten ++ resCs rvs)
  own : ∀ b, Blk w' .ow (outBs sg.args ++ resBs sg.res) (outVs w' sg.args vals ++ resVs w' sg.res rs) (outs.flatten ++ resCs rvs) b →
    (w.heap.size ≤ b ∨ Blk w .ow (argBs sg.args) (argVs w sg.args vals) (argCs args) b) ∧ open? w' b ∧ ¬ Blk w' .sh (outBs sg.args ++ resBs sg.res) (outVs w' sg.args vals ++ resVs w' sg.res rs) (outs.flatten ++ resCs rvs) b
  sh : ∀ b, Blk w' .sh (outBs sg.args ++ resBs sg.res) (outVs w' sg.args vals ++ resVs w' sg.res rs) (outs.flatten ++ resCs rvs) b →
    w.heap.size ≤ b ∨ Blk w .ow (argBs sg.args) (argVs w sg.args vals) (argCs args) b ∨ Blk w .sh (argBs sg.args) (argVs w sg.args vals) (argCs args) b

/-- One result is itself; more are a tuple. -/
def OneOrTup (rvs : List RV) (rs : List Value) (rv : RV) (v : Value) : Prop := (rvs = [rv] ∧ rs = [v]) ∨ (rvs.length ≠ 1 ∧ rv = .tup rvs ∧ v = .tuple rs.toArray)

def Exit (w w' : World) (sg : Sg) (args : List Arg) (vals : List Value) (r : Res) (v : Value) : Prop :=
  ∃ rvs rs, OneOrTup rvs rs r.val v ∧ Exit' w w' sg args vals r.outs rvs rs

/-- A function with a body. -/
def Enters (P : Program) (f : FuncId) : Prop := ∃ fn, P.funcs[f]? = some fn ∧ (fn.name == "runtime.NumGoroutine") = false ∧ fn.body.isSome = true

theorem Enters.run {P : Program} {f : FuncId} (h : Enters P f) (args : Array Value) (w : World) : (callFunc f args).run P w = .ok (.enter f args) w := by
  obtain ⟨fn, h1, h2, h3⟩ := h
  have h4 : ¬ fn.body = none := by intro hb; rw [hb] at h3; cases h3
  have h5 : ¬ fn.name = "runtime.NumGoroutine" := by simpa using h2
  simp [callFunc, h1, h5, h4]

/-- WHAT A FUNCTION PROMISES. -/
def Con (P : Program) (sg : Sg) (f : FuncId) (φ : List Arg → Option Res) : Prop :=
  Enters P f ∧ ∀ (args : List Arg) (r : Res), φ args = some r → ∀ (w : World) (vals : List Value), Entry w sg.aggs sg.args args vals →
    Calls P f vals.toArray w fun e w' => ∃ v, e = .returned v ∧ Exit w w' sg args vals r v
end Go.Opt
/- The operation 'call': what is handed over. -/
set_option linter.unusedVariables false
namespace Go.Opt
open Go.RowKit

/-- Cells that are handed over under the classes that are given away ('os') and those that are shared. -/
structure HF (x : Cx) (bs : List BM) (vs : List Value) (cs : List C) (os ss : List Nat) : Prop where
  hand : Hand x.w bs vs cs
  ow : ∀ b, Blk x.w .ow bs vs cs b → (∃ e ∈ os, x.L e = true ∧ b ∈ x.g.lam e) ∧ (∀ k, x.bx k = true → b ≠ x.g.bet k) ∧ x.g.rch b
  sh : ∀ b, Blk x.w .sh bs vs cs b → (∀ e, x.L e = true → b ∈ x.g.lam e → e ∈ ss) ∧ (∀ k, x.bx k = true → b ≠ x.g.bet k) ∧ x.g.rch b
  osL : ∀ e ∈ os, x.L e = true
  shL : ∀ e ∈ ss, x.L e = true

theorem HF.nil (x : Cx) : HF x [] [] [] [] [] := ⟨Hand.nil _, fun b ⟨j, v, c, h, _⟩ => by simp at h, fun b ⟨j, v, c, h, _⟩ => by simp at h, by simp, by simp⟩

theorem HF.append {x : Cx} {b1 b2 : List BM} {v1 v2 : List Value} {c1 c2 : List C} {o1 o2 s1 s2 : List Nat} (hap : ∀ e e', x.L e = true → x.L e' = true → e ≠ e' → ∀ b ∈ x.g.lam e, b ∉ x.g.lam e')
    (h1 : HF x b1 v1 c1 o1 s1) (h2 : HF x b2 v2 c2 o2 s2) (hov : overlaps o1 o2 = false) : HF x (b1 ++ b2) (v1 ++ v2) (c1 ++ c2) (o1 ++ o2) (s1 ++ s2) := by
  refine ⟨h1.hand.append h2.hand fun b hb1 hb2 => ?_, fun b hb => ?_, fun b hb => ?_, fun e he => ?_, fun e he => ?_⟩
  · obtain ⟨⟨e, he, hL, hbe⟩, _⟩ := h1.ow b hb1
    obtain ⟨⟨e', he', hL', hbe'⟩, _⟩ := h2.ow b hb2
    by_cases hee : e = e'
    · subst hee; exact overlaps_false hov e he he'
    · exact hap e e' hL hL' hee b hbe hbe'
  · rcases (Blk.append h1.hand.lenV h1.hand.lenC).1 hb with hb | hb
    · obtain ⟨⟨e, he, q⟩, q2⟩ := h1.ow b hb
      exact ⟨⟨e, List.mem_append_left _ he, q⟩, q2⟩
    · obtain ⟨⟨e, he, q⟩, q2⟩ := h2.ow b hb
      exact ⟨⟨e, List.mem_append_right _ he, q⟩, q2⟩
  · rcases (Blk.append h1.hand.lenV h1.hand.lenC).1 hb with hb | hb
    · obtain ⟨q, q2⟩ := h1.sh b hb
      exact ⟨fun e he hbe => List.mem_append_left _ (q e he hbe), q2⟩
    · obtain ⟨q, q2⟩ := h2.sh b hb
      exact ⟨fun e he hbe => List.mem_append_right _ (q e he hbe), q2⟩
  · rcases List.mem_append.1 he with he | he
    · exact h1.osL e he
    · exact h2.osL e he
  · rcases List.mem_append.1 he with he | he
    · exact h1.shL e he
    · exact h2.shL e he

theorem CellsOK.hf {x : Cx} {bs : List BM} {vs : List Value} {cs : List C} {ms : List CM} {o : List Nat} (h : CellsOK x vs cs ms) (ht : takeO x.L bs ms = some o) : HF x bs vs cs o (takeS bs ms) := by
  obtain ⟨h1, h2, h3⟩ := take_hand h ht
  exact ⟨h1, h2, h3, takeO_alive ht, takeS_alive ht⟩

section
variable {P : Program} {F : Frm} {s : SS} {σ : S} {a : Act} {w : World} {g : Gh} {Φ : Cl'} {G : Nat → Option Sg} {ro : List Nat} {gd : Option (Nat × Bool)} {σ1 : S} {s1 : SS}

theorem ptrVs_box {b off : Nat} {cells : Array Value} {t : TypeId} (hb : w.heap[b]? = some (.cells cells t (0, 0))) : ptrVs w (.pointer (some ⟨b, off, none⟩)) = cells.toList := by
  simp only [ptrVs, rowOf, hb]

theorem args_hand (h : Inv F s σ a w g) (hg : guardHolds σ gd) : ∀ (ms : List AM) (xs : List AX) (ts : List TypeId) (ops : List Operand) (as : List Arg) (os sh : List Nat),
    argsOk P ts ops xs = true → argsM s gd ms xs = some (os, sh) → xs.all (!AX.isIo ·) = true → toArgs σ xs = some as →
    ArgShapes w ms as (ops.map a.eval) ∧ HF (s.cx w g) (argBs ms) (argVs w ms (ops.map a.eval)) (argCs as) os sh ∧
    argBx ms (ops.map a.eval) = (xs.flatMap AX.pb).map g.bet ∧ ∀ b ∈ xs.flatMap AX.pb, (s.b b).isSome = true
  | [], [], ts, ops, as, os, sh, h1, h2, h3, h4 => by
    simp only [argsM, Option.some.injEq, Prod.mk.injEq] at h2
    simp only [toArgs, Option.some.injEq] at h4
    obtain ⟨rfl, rfl⟩ := h2
    subst h4
    cases ops with
    | nil => exact ⟨trivial, HF.nil _, rfl, by simp⟩
    | cons _ _ => cases ts <;> simp [argsOk] at h1
  | [], _ :: _, ts, ops, as, os, sh, h1, h2, h3, h4 => by simp [argsM] at h2
  | _ :: _, [], ts, ops, as, os, sh, h1, h2, h3, h4 => by simp [argsM] at h2
  | m :: ms, x :: xs, [], ops, as, os, sh, h1, h2, h3, h4 => by cases ops <;> simp [argsOk] at h1
  | m :: ms, x :: xs, t :: ts, [], as, os, sh, h1, h2, h3, h4 => by simp [argsOk] at h1
  | m :: ms, x :: xs, t :: ts, op :: ops, as, os, sh, h1, h2, h3, h4 => by
    simp only [argsOk, Bool.and_eq_true] at h1
    simp only [List.all_cons, Bool.and_eq_true] at h3
    simp only [toArgs] at h4
    split at h4
    · rename_i a0 l ha0 hl
      cases h4
      simp only [argsM] at h2
      split at h2
      · cases h2
      · rename_i os' ss' hrest
        obtain ⟨i1, i2, i3, i4⟩ := args_hand h hg ms xs ts ops l os' ss' h1.2 hrest h3.2 hl
        split at h2
        · -- a value
          rename_i bs x0
          split at h2
          · rename_i cs hcs
            split at h2
            · rename_i o ho
              split at h2
              · cases h2
              · rename_i hov
                simp only [Option.some.injEq, Prod.mk.injEq] at h2
                obtain ⟨rfl, rfl⟩ := h2
                have hx : normX P t op = some x0 := by simpa [argOk] using h1.1
                obtain ⟨hT, hU⟩ := h.x hx
                have hcells : ArgShape w (.v bs) a0 (a.eval op) ∧ CellsOK (s.cx w g) (a.eval op).cells.toList a0.cells cs := by
                  simp only [toArg] at ha0
                  split at ha0
                  · rename_i c hc
                    cases ha0
                    have hC := hT.cellsOf hcs (cs := [c]) (by rw [hc]; rfl)
                    refine ⟨?_, hC⟩
                    intro vs hv
                    have h1c := hC.one_cell
                    have hl1 := hC.lenC
                    have hl2 := hC.lenV
                    rw [hc] at hT
                    cases hm : XM s x0 with
                    | dead => rw [hm] at hcs; simp [M.cells] at hcs
                    | tup l => rw [hm] at hcs; simp [M.cells] at hcs
                    | agg ms' => rw [hm] at hT; simp [TOK, VOK] at hT
                    | c m' =>
                      rw [hm] at hT
                      have := hT.of_cell.1
                      rw [hv] at this
                      cases c with
                      | sl s r => obtain ⟨_, _, h', _⟩ := this; cases h'
                      | _ => simp [Hd] at this
                  · rename_i xs' hc
                    cases ha0
                    have hC := hT.cellsOf hcs (cs := xs') (by rw [hc]; rfl)
                    refine ⟨?_, hC⟩
                    rw [hc] at hT
                    cases hm : XM s x0 with
                    | dead => rw [hm] at hcs; simp [M.cells] at hcs
                    | tup l => rw [hm] at hcs; simp [M.cells] at hcs
                    | c m' => rw [hm] at hT; simp [TOK, VOK] at hT
                    | agg ms' =>
                      rw [hm] at hT
                      obtain ⟨vs, hv, _⟩ := hT.of_agg
                      exact ⟨vs, hv⟩
                  · cases ha0
                have hfo := hcells.2.hf ho
                refine ⟨⟨⟨hcells.1, hfo.hand.lenV, hfo.hand.lenC⟩, i1⟩, ?_, ?_, ?_⟩
                · exact HF.append h.apart (hcells.2.hf ho) i2 (by simpa using hov)
                · simp only [List.map_cons, argBx, AM.blk, List.nil_append, List.flatMap_cons, AX.pb]; exact i3
                · simpa [AX.pb] using i4
            · cases h2
          · cases h2
        · -- a place
          simp [AX.isIo] at h3
        · -- a pointer
          rename_i ins outs n b
          split at h2
          · rename_i cs hcs
            split at h2
            · rename_i o ho
              split at h2
              · cases h2
              · rename_i hov
                split at h2
                · rename_i hh
                  simp only [Option.some.injEq, Prod.mk.injEq] at h2
                  obtain ⟨rfl, rfl⟩ := h2
                  have hop : op = .tmp n := by
                    have := h1.1
                    unfold argOk at this
                    simp only at this
                    split at this
                    · simp only [beq_iff_eq] at this; rw [this]
                    · cases this
                  subst hop
                  have hP := h.holds hh hg
                  simp only [PtrOK] at hP
                  obtain ⟨hmine, cells, ty, hheap, hC⟩ := h.boxes b cs hcs
                  simp only [toArg, Option.some.injEq] at ha0
                  subst ha0
                  have hev : a.eval (.tmp n) = .pointer (some ⟨g.bet b, 0, none⟩) := hP.2
                  have hvs : AM.vals w (.p ins outs) (a.eval (.tmp n)) = cells.toList := by
                    rw [hev]; exact ptrVs_box hheap
                  have hfo := hC.hf ho
                  refine ⟨⟨⟨⟨g.bet b, cells, ty, hev, hheap⟩, by rw [hvs]; exact hfo.hand.lenV, hfo.hand.lenC⟩, i1⟩, ?_, ?_, ?_⟩
                  · have : AM.vals w (.p ins outs) (a.eval (.tmp n)) = cells.toList := by
                      rw [hev]; exact ptrVs_box hheap
                    simp only [List.map_cons, argVs, this]
                    exact HF.append h.apart (hC.hf ho) i2 (by simpa using hov)
                  · simp only [List.map_cons, argBx, AM.blk, hev, ptrBlk, List.flatMap_cons, AX.pb, List.singleton_append, i3]
                  · simp only [List.flatMap_cons, AX.pb, List.singleton_append, List.mem_cons, forall_eq_or_imp]
                    exact ⟨hP.1, i4⟩
                · cases h2
            · cases h2
          · cases h2
        · cases h2
    · cases h4

theorem args_aggs (h : Inv F s σ a w g) : ∀ (ms : List AM) (xs : List AX) (ts : List TypeId) (ops : List Operand) (gs : List Bool) (as : List Arg), argsOk P ts ops xs = true → xs.all (!AX.isIo ·) = true → toArgs σ xs = some as → aggsOk s gs xs = true → AggShapes gs as
  | ms, [], ts, ops, gs, as, h1, h3, h4, h5 => by
    simp only [toArgs, Option.some.injEq] at h4
    subst h4
    cases gs with
    | nil => trivial
    | cons _ _ => simp [aggsOk] at h5
  | ms, x :: xs, [], ops, gs, as, h1, h3, h4, h5 => by cases ops <;> simp [argsOk] at h1
  | ms, x :: xs, t :: ts, [], gs, as, h1, h3, h4, h5 => by simp [argsOk] at h1
  | ms, x :: xs, t :: ts, op :: ops, [], as, h1, h3, h4, h5 => by cases x <;> simp [aggsOk] at h5
  | ms, x :: xs, t :: ts, op :: ops, gg :: gs, as, h1, h3, h4, h5 => by
    simp only [argsOk, Bool.and_eq_true] at h1
    simp only [List.all_cons, Bool.and_eq_true] at h3
    simp only [toArgs] at h4
    split at h4
    · rename_i a0 l ha0 hl
      cases h4
      cases x with
      | io _ _ _ => simp [AX.isIo] at h3
      | p a' b' =>
        simp only [toArg, Option.some.injEq] at ha0
        subst ha0
        simp only [aggsOk] at h5
        exact args_aggs h ms xs ts ops gs l h1.2 h3.2 hl h5
      | v x0 =>
        simp only [aggsOk, Bool.and_eq_true] at h5
        have ih := args_aggs h ms xs ts ops gs l h1.2 h3.2 hl h5.2
        have hx : normX P t op = some x0 := by simpa [argOk] using h1.1
        obtain ⟨hT, hU⟩ := h.x hx
        have h6 := h5.1
        simp only [toArg] at ha0
        split at ha0
        · rename_i c hc
          cases ha0
          rw [hc] at hT
          refine ⟨?_, ih⟩
          cases hm : XM s x0 with
          | c m => rw [hm] at h6; simpa using h6
          | agg ms => rw [hm] at hT; simp [TOK, VOK] at hT
          | dead => rw [hm] at h6; simp at h6
          | tup l => rw [hm] at h6; simp at h6
        · rename_i xs' hc
          cases ha0
          rw [hc] at hT
          refine ⟨?_, ih⟩
          cases hm : XM s x0 with
          | c m => rw [hm] at hT; simp [TOK, VOK] at hT
          | agg ms => rw [hm] at h6; simpa using h6
          | dead => rw [hm] at h6; simp at h6
          | tup l => rw [hm] at h6; simp at h6
        · cases ha0
    · cases h4

/-! ### Names of what comes back -/
theorem freshs_spec : ∀ {es : List Nat} {s s1 : SS}, s.freshs es = some s1 → es.Nodup ∧ (∀ e ∈ es, s.U e = false) ∧ s1.t = s.t ∧ s1.b = s.b ∧ s1.p = s.p ∧ s1.a = s.a ∧ (∀ e, s1.L e = true ↔ s.L e = true ∨ e ∈ es) ∧ (∀ e, s1.U e = true ↔ s.U e = true ∨ e ∈ es)
  | [], s, s1, h => by
    simp only [SS.freshs, Option.some.injEq] at h
    subst h; simp
  | e :: r, s, s1, h => by
    simp only [SS.freshs] at h
    split at h
    · rename_i s' hs
      obtain ⟨hU, rfl⟩ := fresh_spec hs
      obtain ⟨h1, h2, h3, h4, h5, h6, h7, h8⟩ := freshs_spec h
      have hne : ∀ x ∈ r, x ≠ e ∧ s.U x = false := by
        intro x hx
        have := h2 x hx
        simp only at this
        by_cases hxe : x = e
        · subst hxe; rw [upd_same] at this; cases this
        · rw [upd_ne _ _ hxe] at this; exact ⟨hxe, this⟩
      refine ⟨List.nodup_cons.2 ⟨fun hm => (hne e hm).1 rfl, h1⟩, ?_, h3, h4, h5, h6, fun x => ?_, fun x => ?_⟩
      · intro x hx
        rcases List.mem_cons.1 hx with rfl | hx
        · exact hU
        · exact (hne x hx).2
      · rw [h7 x]
        simp only [List.mem_cons]
        by_cases hxe : x = e
        · subst hxe; simp [upd_same]
        · rw [upd_ne _ _ hxe]; simp [hxe]
      · rw [h8 x]
        simp only [List.mem_cons]
        by_cases hxe : x = e
        · subst hxe; simp [upd_same]
        · rw [upd_ne _ _ hxe]; simp [hxe]
    · cases h

def owNs : List Nat → List BM → List Nat
  | n :: ns, .ow :: bs => n :: owNs ns bs
  | _ :: ns, _ :: bs => owNs ns bs
  | _, _ => []
def fpOf (w : World) (e : Nat) : List Nat → List BM → List Value → List C → List Nat
  | n :: ns, .ow :: bs, v :: vs, c :: cs => if n = e then fp w v c else fpOf w e ns bs vs cs
  | _ :: ns, _ :: bs, _ :: vs, _ :: cs => fpOf w e ns bs vs cs
  | _, _, _, _ => []

theorem mem_owNs {e : Nat} : ∀ {ns : List Nat} {bs : List BM}, e ∈ owNs ns bs ↔ ∃ j : Nat, ns[j]? = some e ∧ bs[j]? = some BM.ow
  | [], bs => by simp [owNs]
  | n :: ns, [] => by simp [owNs]
  | n :: ns, k :: bs => by
    have ih := mem_owNs (e := e) (ns := ns) (bs := bs)
    have hsplit : (∃ j : Nat, (n :: ns)[j]? = some e ∧ (k :: bs)[j]? = some BM.ow) ↔ (n = e ∧ k = .ow) ∨ ∃ j : Nat, ns[j]? = some e ∧ bs[j]? = some BM.ow := by
      constructor
      · rintro ⟨j, h1, h2⟩
        cases j with
        | zero => simp at h1 h2; exact .inl ⟨h1, h2⟩
        | succ j => exact .inr ⟨j, by simpa using h1, by simpa using h2⟩
      · rintro (⟨rfl, rfl⟩ | ⟨j, h1, h2⟩)
        · exact ⟨0, by simp, by simp⟩
        · exact ⟨j + 1, by simpa using h1, by simpa using h2⟩
    rw [hsplit]
    cases k with
    | ow => simp only [owNs, List.mem_cons, ih]; constructor
            · rintro (rfl | h)
              · exact .inl ⟨rfl, trivial⟩
              · exact .inr h
            · rintro (⟨rfl, _⟩ | h)
              · exact .inl rfl
              · exact .inr h
    | sc => simp only [owNs, ih]; simp
    | sh => simp only [owNs, ih]; simp

theorem fpOf_mem {w : World} {e b : Nat} : ∀ {ns : List Nat} {bs : List BM} {vs : List Value} {cs : List C}, b ∈ fpOf w e ns bs vs cs → ∃ (j : Nat) (v : Value) (c : C), ns[j]? = some e ∧ bs[j]? = some BM.ow ∧ vs[j]? = some v ∧ cs[j]? = some c ∧ b ∈ fp w v c
  | [], _, _, _, h => by simp [fpOf] at h
  | _ :: _, [], _, _, h => by simp [fpOf] at h
  | _ :: _, .ow :: _, [], _, h => by simp [fpOf] at h
  | _ :: _, .sc :: _, [], _, h => by simp [fpOf] at h
  | _ :: _, .sh :: _, [], _, h => by simp [fpOf] at h
  | _ :: _, .ow :: _, _ :: _, [], h => by simp [fpOf] at h
  | _ :: _, .sc :: _, _ :: _, [], h => by simp [fpOf] at h
  | _ :: _, .sh :: _, _ :: _, [], h => by simp [fpOf] at h
  | n :: ns, .ow :: bs, v :: vs, c :: cs, h => by
    simp only [fpOf] at h
    split at h
    · rename_i hn; subst hn; exact ⟨0, v, c, by simp, by simp, by simp, by simp, h⟩
    · obtain ⟨j, v', c', h1, h2, h3, h4, h5⟩ := fpOf_mem h
      exact ⟨j + 1, v', c', by simpa using h1, by simpa using h2, by simpa using h3, by simpa using h4, h5⟩
  | n :: ns, .sc :: bs, v :: vs, c :: cs, h => by
    simp only [fpOf] at h
    obtain ⟨j, v', c', h1, h2, h3, h4, h5⟩ := fpOf_mem h
    exact ⟨j + 1, v', c', by simpa using h1, by simpa using h2, by simpa using h3, by simpa using h4, h5⟩
  | n :: ns, .sh :: bs, v :: vs, c :: cs, h => by
    simp only [fpOf] at h
    obtain ⟨j, v', c', h1, h2, h3, h4, h5⟩ := fpOf_mem h
    exact ⟨j + 1, v', c', by simpa using h1, by simpa using h2, by simpa using h3, by simpa using h4, h5⟩

theorem fpOf_at {w : World} {e : Nat} : ∀ {ns : List Nat} {bs : List BM} {vs : List Value} {cs : List C}, (owNs ns bs).Nodup → ∀ {j : Nat} {v : Value} {c : C}, ns[j]? = some e → bs[j]? = some BM.ow → vs[j]? = some v → cs[j]? = some c → fpOf w e ns bs vs cs = fp w v c
  | [], _, _, _, _, j, v, c, h, _, _, _ => by simp at h
  | _ :: _, [], _, _, _, j, v, c, _, h, _, _ => by simp at h
  | _ :: _, _ :: _, [], _, _, j, v, c, _, _, h, _ => by simp at h
  | _ :: _, _ :: _, _ :: _, [], _, j, v, c, _, _, _, h => by simp at h
  | n :: ns, .ow :: bs, v0 :: vs, c0 :: cs, hn, j, v, c, h1, h2, h3, h4 => by
    simp only [owNs, List.nodup_cons] at hn
    simp only [fpOf]
    cases j with
    | zero => simp at h1 h3 h4; subst h1; subst h3; subst h4; simp
    | succ j =>
      simp only [List.getElem?_cons_succ] at h1 h2 h3 h4
      rw [if_neg (fun he : n = e => hn.1 (by rw [he]; exact mem_owNs.2 ⟨j, h1, h2⟩))]
      exact fpOf_at hn.2 h1 h2 h3 h4
  | n :: ns, .sc :: bs, v0 :: vs, c0 :: cs, hn, j, v, c, h1, h2, h3, h4 => by
    simp only [owNs] at hn
    simp only [fpOf]
    cases j with
    | zero => simp at h2
    | succ j =>
      simp only [List.getElem?_cons_succ] at h1 h2 h3 h4
      exact fpOf_at hn h1 h2 h3 h4
  | n :: ns, .sh :: bs, v0 :: vs, c0 :: cs, hn, j, v, c, h1, h2, h3, h4 => by
    simp only [owNs] at hn
    simp only [fpOf]
    cases j with
    | zero => simp at h2
    | succ j =>
      simp only [List.getElem?_cons_succ] at h1 h2 h3 h4
      exact fpOf_at hn h1 h2 h3 h4

theorem owNs_append : ∀ {n1 n2 : List Nat} {b1 b2 : List BM}, n1.length = b1.length → owNs (n1 ++ n2) (b1 ++ b2) = owNs n1 b1 ++ owNs n2 b2
  | [], _, [], _, _ => by simp [owNs]
  | n :: n1, n2, k :: b1, b2, h => by
    have ih := owNs_append (n1 := n1) (n2 := n2) (b1 := b1) (b2 := b2) (by simpa using h)
    cases k <;> simp [owNs, ih]
  | [], _, _ :: _, _, h => by simp at h
  | _ :: _, _, [], _, h => by simp at h

def nsOf (e : Nat) (bs : List BM) : List Nat := List.range' e bs.length

theorem backE_ns : ∀ (e j : Nat) (bs : List BM), backE e j bs = owNs (List.range' (e + j) bs.length) bs
  | e, j, [] => by simp [backE, owNs]
  | e, j, k :: bs => by
    have ih := backE_ns e (j + 1) bs
    rw [← Nat.add_assoc] at ih
    cases k <;> simp [backE, owNs, List.range'_succ, ih]
theorem backM_ns (sh : List Nat) : ∀ (e j : Nat) (bs : List BM), backM e sh j bs = ((List.range' (e + j) bs.length).zip bs).map fun q => q.2.mode sh q.1
  | e, j, [] => by simp [backM]
  | e, j, k :: bs => by
    have ih := backM_ns sh e (j + 1) bs
    rw [← Nat.add_assoc] at ih
    cases k <;> simp [backM, List.range'_succ, ih, BM.mode]

def outNs (d : Nat) : Nat → List AM → List Nat
  | _, [] => []
  | k, m :: ms => nsOf (atom d (64 * (k + 1))) m.outs ++ outNs d (k + 1) ms
def outMs (d : Nat) (sh : List Nat) : Nat → List AM → List CM
  | _, [] => []
  | k, m :: ms => backM (atom d (64 * (k + 1))) sh 0 m.outs ++ outMs d sh (k + 1) ms
def resNs (d : Nat) : Nat → List RM → List Nat
  | _, [] => []
  | k, m :: ms => nsOf (atom d (64 * (k + 20))) m.modes ++ resNs d (k + 1) ms
def resMs (d : Nat) (sh : List Nat) : Nat → List RM → List CM
  | _, [] => []
  | k, m :: ms => backM (atom d (64 * (k + 20))) sh 0 m.modes ++ resMs d sh (k + 1) ms

theorem nsOf_length (e : Nat) (bs : List BM) : (nsOf e bs).length = bs.length := by simp [nsOf]
theorem outNs_length (d : Nat) : ∀ (k : Nat) (ms : List AM), (outNs d k ms).length = (outBs ms).length
  | _, [] => rfl
  | k, m :: ms => by simp only [outNs, List.length_append, nsOf_length, outBs, List.flatMap_cons, outNs_length d (k + 1) ms]
theorem resNs_length (d : Nat) : ∀ (k : Nat) (ms : List RM), (resNs d k ms).length = (resBs ms).length
  | _, [] => rfl
  | k, m :: ms => by simp only [resNs, List.length_append, nsOf_length, resBs, List.flatMap_cons, resNs_length d (k + 1) ms]
theorem outE_ns (d : Nat) : ∀ (k : Nat) (ms : List AM), outE d k ms = owNs (outNs d k ms) (outBs ms)
  | _, [] => rfl
  | k, m :: ms => by
    simp only [outE, outNs, outBs, List.flatMap_cons]
    rw [owNs_append (nsOf_length _ _), backE_ns, outE_ns d (k + 1) ms]
    simp only [nsOf, Nat.add_zero, outBs, resBs]
theorem resE_ns (d : Nat) : ∀ (k : Nat) (ms : List RM), resE d k ms = owNs (resNs d k ms) (resBs ms)
  | _, [] => rfl
  | k, .v agg bs :: ms => by
    simp only [resE, resNs, resBs, List.flatMap_cons, RM.modes]
    rw [owNs_append (nsOf_length _ _), backE_ns, resE_ns d (k + 1) ms]
    simp only [nsOf, Nat.add_zero, outBs, resBs]
  | k, .p bs :: ms => by
    simp only [resE, resNs, resBs, List.flatMap_cons, RM.modes]
    rw [owNs_append (nsOf_length _ _), backE_ns, resE_ns d (k + 1) ms]
    simp only [nsOf, Nat.add_zero, outBs, resBs]
theorem outMs_ns (d : Nat) (sh : List Nat) : ∀ (k : Nat) (ms : List AM), outMs d sh k ms = ((outNs d k ms).zip (outBs ms)).map fun q => q.2.mode sh q.1
  | _, [] => rfl
  | k, m :: ms => by
    simp only [outMs, outNs, outBs, List.flatMap_cons]
    rw [List.zip_append (nsOf_length _ _), List.map_append, backM_ns, outMs_ns d sh (k + 1) ms]
    simp only [nsOf, Nat.add_zero, outBs, resBs]
theorem resMs_ns (d : Nat) (sh : List Nat) : ∀ (k : Nat) (ms : List RM), resMs d sh k ms = ((resNs d k ms).zip (resBs ms)).map fun q => q.2.mode sh q.1
  | _, [] => rfl
  | k, m :: ms => by
    simp only [resMs, resNs, resBs, List.flatMap_cons]
    rw [List.zip_append (nsOf_length _ _), List.map_append, backM_ns, resMs_ns d sh (k + 1) ms]
    simp only [nsOf, Nat.add_zero, outBs, resBs]

/-! ### The boxes that come back -/
structure ZO where
  b : Nat
  ms : List CM
  cs : List C
  v : Value

def zOut (d : Nat) (sh : List Nat) : Nat → List AM → List AX → List Value → List (List C) → List ZO
  | k, .p _ bs :: ms, .p _ b :: xs, v :: vs, cs :: outs => ⟨b, backM (atom d (64 * (k + 1))) sh 0 bs, cs, v⟩ :: zOut d sh (k + 1) ms xs vs outs
  | k, _ :: ms, .v _ :: xs, _ :: vs, outs => zOut d sh (k + 1) ms xs vs outs
  | _, _, _, _, _ => []

def zS (Z : List ZO) (s : SS) : SS := Z.foldl (fun s z => { s.cutB z.b with b := upd s.b z.b (some z.ms) }) s
def zD (Z : List ZO) (σ : S) : S := Z.foldl (fun σ z => σ.setB z.b z.cs) σ

theorem backM_length (e : Nat) (sh : List Nat) (j : Nat) (bs : List BM) : (backM e sh j bs).length = bs.length := by rw [backM_ns]; simp

theorem zOut_spec (d : Nat) (sh : List Nat) {w' : World} {T : Nat → DV} {gd : Option (Nat × Bool)} {s0 : SS} : ∀ (k : Nat) (ms : List AM) (xs : List AX) (vals : List Value) (outs : List (List C)) (s : SS) (σ σ1 : S) (q : List Nat × List Nat), argsM s0 gd ms xs = some q → xs.all (!AX.isIo ·) = true →
    OutShapes w' ms vals outs → layOuts T xs outs σ = some σ1 →
    (zOut d sh k ms xs vals outs).map (·.b) = xs.flatMap AX.pb ∧ outB d sh k ms xs s = zS (zOut d sh k ms xs vals outs) s ∧ σ1 = zD (zOut d sh k ms xs vals outs) σ ∧
    (zOut d sh k ms xs vals outs).flatMap (fun z => ptrVs w' z.v) = outVs w' ms vals ∧ (zOut d sh k ms xs vals outs).flatMap (·.cs) = outs.flatten ∧ (zOut d sh k ms xs vals outs).flatMap (·.ms) = outMs d sh k ms ∧
    argBx ms vals = (zOut d sh k ms xs vals outs).flatMap (fun z => ptrBlk z.v) ∧
    ∀ z ∈ zOut d sh k ms xs vals outs, IsPtr w' z.v ∧ z.cs.length = z.ms.length ∧ (ptrVs w' z.v).length = z.ms.length
  | k, [], [], vals, outs, s, σ, σ1, q, hq, hio, hs, hl => by
    cases vals with
    | cons _ _ => simp [OutShapes] at hs
    | nil =>
      cases outs with
      | cons _ _ => simp [OutShapes] at hs
      | nil =>
        simp only [layOuts, Option.some.injEq] at hl
        subst hl
        simp [zOut, outB, zS, zD, outVs, outMs, argBx]
  | k, [], _ :: _, vals, outs, s, σ, σ1, q, hq, hio, hs, hl => by simp [argsM] at hq
  | k, _ :: _, [], vals, outs, s, σ, σ1, q, hq, hio, hs, hl => by simp [argsM] at hq
  | k, m :: ms, x :: xs, [], outs, s, σ, σ1, q, hq, hio, hs, hl => by cases m <;> simp [OutShapes] at hs
  | k, m :: ms, x :: xs, v :: vals, outs, s, σ, σ1, q, hq, hio, hs, hl => by
    simp only [argsM] at hq
    split at hq
    · cases hq
    rename_i os' ss' hq'
    simp only [List.all_cons, Bool.and_eq_true] at hio
    cases m with
    | io bs => simp [OutShapes] at hs
    | v bs =>
      cases x with
      | io _ _ _ => simp [AX.isIo] at hio
      | p _ _ => simp at hq
      | v x =>
        simp only [OutShapes] at hs
        simp only [layOuts] at hl
        have ih := zOut_spec d sh (k + 1) ms xs vals outs s σ σ1 _ hq' hio.2 hs hl
        simp only [zOut, List.flatMap_cons, AX.pb, List.nil_append, outB, outVs, outMs, AM.outs, backM, argBx, AM.blk]
        exact ih
    | p ins bs =>
      cases x with
      | io _ _ _ => simp [AX.isIo] at hio
      | v _ => simp at hq
      | p a b =>
        cases outs with
        | nil => simp [OutShapes] at hs
        | cons cs outs =>
          simp only [OutShapes] at hs
          simp only [layOuts] at hl
          obtain ⟨i1, i2, i3, i4, i5, i6, i7, i8⟩ := zOut_spec d sh (k + 1) ms xs vals outs { s.cutB b with b := upd s.b b (some (backM (atom d (64 * (k + 1))) sh 0 bs)) } (σ.setB b cs) σ1 _ hq' hio.2 hs.2.2.2 hl
          simp only [zOut, List.map_cons, List.flatMap_cons, AX.pb, List.singleton_append, outB, outVs, outMs, AM.outs, argBx, AM.blk, List.flatten_cons, i1, i4, i5, i6, i7, List.mem_cons, forall_eq_or_imp, backM_length]
          exact ⟨trivial, i2, i3, trivial, trivial, trivial, trivial, ⟨hs.1, hs.2.1, hs.2.2.1⟩, i8⟩
end
end Go.Opt
/- The operation 'call': the world jumps. -/
set_option linter.unusedVariables false
namespace Go.Opt
open Go.RowKit

theorem zS_spec : ∀ (Z : List ZO) (s : SS), (zS Z s).t = s.t ∧ (zS Z s).L = s.L ∧ (zS Z s).U = s.U ∧ (∀ k, k ∉ Z.map (·.b) → (zS Z s).b k = s.b k) ∧ ((Z.map (·.b)).Nodup → ∀ z ∈ Z, (zS Z s).b z.b = some z.ms) ∧
    (∀ k q gd, (zS Z s).p k = some (q, gd) → s.p k = some (q, gd) ∧ ∀ b ∈ q.boxes, b ∉ Z.map (·.b)) ∧ (∀ k p q, (zS Z s).a k = some (p, q) → s.a k = some (p, q) ∧ ∀ b ∈ p.boxes, b ∉ Z.map (·.b))
  | [], s => by simp [zS]
  | z :: Z, s => by
    obtain ⟨h1, h2, h3, h4, h5, h6, h7⟩ := zS_spec Z { s.cutB z.b with b := upd s.b z.b (some z.ms) }
    have e : zS (z :: Z) s = zS Z { s.cutB z.b with b := upd s.b z.b (some z.ms) } := rfl
    rw [e]
    refine ⟨h1, h2, h3, fun k hk => ?_, fun hn z' hz' => ?_, fun k q gd hk => ?_, fun k p q hk => ?_⟩
    · simp only [List.map_cons, List.mem_cons, not_or] at hk
      rw [h4 k hk.2]; exact upd_ne _ _ hk.1
    · simp only [List.map_cons, List.nodup_cons] at hn
      rcases List.mem_cons.1 hz' with rfl | hz'
      · rw [h4 _ hn.1]; exact upd_same _ _ _
      · exact h5 hn.2 z' hz'
    · obtain ⟨q1, q2⟩ := h6 k q gd hk
      obtain ⟨q3, q4⟩ := cutB_p s z.b k q gd q1
      refine ⟨q4, fun b hb => ?_⟩
      simp only [List.map_cons, List.mem_cons, not_or]
      exact ⟨fun he => q3 (he ▸ hb), q2 b hb⟩
    · obtain ⟨q1, q2⟩ := h7 k p q hk
      obtain ⟨q3, q4⟩ := cutB_a s z.b k p q q1
      refine ⟨q4, fun b hb => ?_⟩
      simp only [List.map_cons, List.mem_cons, not_or]
      exact ⟨fun he => q3 (he ▸ hb), q2 b hb⟩

theorem zD_spec : ∀ (Z : List ZO) (σ : S), (zD Z σ).t = σ.t ∧ (∀ k, k ∉ Z.map (·.b) → (zD Z σ).b k = σ.b k) ∧ ((Z.map (·.b)).Nodup → ∀ z ∈ Z, (zD Z σ).b z.b = z.cs)
  | [], s => by simp [zD]
  | z :: Z, s => by
    obtain ⟨h1, h4, h5⟩ := zD_spec Z (s.setB z.b z.cs)
    have e : zD (z :: Z) s = zD Z (s.setB z.b z.cs) := rfl
    rw [e]
    refine ⟨h1, fun k hk => ?_, fun hn z' hz' => ?_⟩
    · simp only [List.map_cons, List.mem_cons, not_or] at hk
      rw [h4 k hk.2]; exact upd_ne _ _ hk.1
    · simp only [List.map_cons, List.nodup_cons] at hn
      rcases List.mem_cons.1 hz' with rfl | hz'
      · rw [h4 _ hn.1]; exact upd_same _ _ _
      · exact h5 hn.2 z' hz'

theorem cells_flat {α : Type} {x : Cx} {f : α → List Value} {g : α → List C} {h : α → List CM} : ∀ (Z : List α), (∀ z ∈ Z, (f z).length = (h z).length ∧ (g z).length = (h z).length) → CellsOK x (Z.flatMap f) (Z.flatMap g) (Z.flatMap h) → ∀ z ∈ Z, CellsOK x (f z) (g z) (h z)
  | [], _, _ => by simp
  | z :: Z, hl, hC => by
    simp only [List.flatMap_cons] at hC
    have hz := hl z (by simp)
    intro z' hz'
    rcases List.mem_cons.1 hz' with rfl | hz'
    · exact hC.splitL hz.1 hz.2
    · exact cells_flat Z (fun z hz => hl z (by simp [hz])) (hC.splitR hz.1 hz.2) z' hz'

theorem ptrBlk_map {Z : List ZO} {w : World} {f : Nat → Nat} (h : ∀ z ∈ Z, IsPtr w z.v) (he : Z.flatMap (fun z => ptrBlk z.v) = (Z.map (·.b)).map f) : ∀ z ∈ Z, ∃ cells t, z.v = .pointer (some ⟨f z.b, 0, none⟩) ∧ w.heap[f z.b]? = some (.cells cells t (0, 0)) := by
  induction Z with
  | nil => simp
  | cons z Z ih =>
    obtain ⟨b, cells, t, hv, hb⟩ := h z (by simp)
    simp only [List.flatMap_cons, hv, ptrBlk, List.singleton_append, List.map_cons, List.cons.injEq] at he
    obtain ⟨rfl, he⟩ := he
    intro z' hz'
    rcases List.mem_cons.1 hz' with rfl | hz'
    · exact ⟨cells, t, hv, hb⟩
    · exact ih (fun z hz => h z (by simp [hz])) he z' hz'

theorem killL_iff (s : SS) (es : List Nat) (e : Nat) : (s.kill es).L e = true ↔ s.L e = true ∧ e ∉ es := by
  simp [SS.kill]

section
variable {P : Program} {F : Frm} {s : SS} {σ : S} {a : Act} {w : World} {g : Gh} {Φ : Cl'} {G : Nat → Option Sg} {ro : List Nat} {gd : Option (Nat × Bool)} {σ1 : S} {s1 : SS}

/-- The deps of modes that come back. -/
theorem modes_deps {sh : List Nat} {ns : List Nat} {bs : List BM} {m : CM} (hm : m ∈ (ns.zip bs).map fun q => q.2.mode sh q.1) : ∀ e ∈ m.deps, e ∈ sh ∨ e ∈ owNs ns bs := by
  obtain ⟨⟨n, k⟩, hq, rfl⟩ := List.mem_map.1 hm
  intro e he
  cases k with
  | sc => simp [BM.mode, CM.free] at he
  | sh => exact .inl he
  | ow =>
    simp only [BM.mode, List.mem_singleton] at he
    subst he
    obtain ⟨j, hj, hq⟩ := List.getElem_of_mem hq
    have : (ns.zip bs)[j]? = some (e, BM.ow) := by rw [List.getElem?_eq_getElem hj, hq]
    rw [List.getElem?_zip_eq_some] at this
    exact .inr (mem_owNs.2 ⟨j, this⟩)

theorem call_jump (h : Inv F s σ a w g) {n : Nat} {sg : Sg} {xs : List AX} {as : List Arg} {vals : List Value} {os sh : List Nat} {q : List Nat × List Nat} {outs : List (List C)} {rvs : List RV} {rs : List Value} {w' : World} {T : Nat → DV}
    (hf : HF (s.cx w g) (argBs sg.args) (argVs w sg.args vals) (argCs as) os sh) (hbx : argBx sg.args vals = (xs.flatMap AX.pb).map g.bet) (hbs : ∀ b ∈ xs.flatMap AX.pb, (s.b b).isSome = true) (hnd : (xs.flatMap AX.pb).Nodup)
    (hro : ∀ i k, (i, k) ∈ F.ro → k ∉ xs.flatMap AX.pb) (hov : overlaps os sh = false) (hq : argsM s gd sg.args xs = some q) (hio : xs.all (!AX.isIo ·) = true)
    (hx : Exit' w w' sg as vals outs rvs rs) (hfr : (s.kill os).freshs (outE n 0 sg.args ++ resE n 0 sg.res) = some s1) (hlay : layOuts T xs outs σ = some σ1) :
    ∃ g2, Inv F (outB n sh 0 sg.args xs s1) σ1 a w' g2 ∧ CellsOK ((outB n sh 0 sg.args xs s1).cx w' g2) (resVs w' sg.res rs) (resCs rvs) (resMs n sh 0 sg.res) ∧ (∀ m ∈ resMs n sh 0 sg.res, ∀ e ∈ m.deps, (outB n sh 0 sg.args xs s1).U e = true) := by
  obtain ⟨f1, f2, f3, f4, f5, f6, f7, f8⟩ := freshs_spec hfr
  obtain ⟨z1, z2, z3, z4, z5, z6, z7, z8⟩ := zOut_spec (w' := w') n sh 0 sg.args xs vals outs s1 σ σ1 q hq hio hx.oshape hlay
  generalize zOut n sh 0 sg.args xs vals outs = Z at z1 z2 z3 z4 z5 z6 z7 z8
  rw [z2]
  subst z3
  obtain ⟨y1, y2, y3, y4, y5, y6, y7⟩ := zS_spec Z s1
  obtain ⟨d1, d2, d3⟩ := zD_spec Z σ
  have hZn : (Z.map (·.b)).Nodup := by rw [z1]; exact hnd
  have hZb : ∀ z ∈ Z, ∃ cells t, z.v = .pointer (some ⟨g.bet z.b, 0, none⟩) ∧ w'.heap[g.bet z.b]? = some (.cells cells t (0, 0)) :=
    ptrBlk_map (fun z hz => (z8 z hz).1) (by rw [← z7, hbx, z1])
  -- names
  have hns : (outNs n 0 sg.args ++ resNs n 0 sg.res).length = (outBs sg.args ++ resBs sg.res).length := by simp [outNs_length, resNs_length]
  have hE : outE n 0 sg.args ++ resE n 0 sg.res = owNs (outNs n 0 sg.args ++ resNs n 0 sg.res) (outBs sg.args ++ resBs sg.res) := by
    rw [owNs_append (outNs_length n 0 sg.args), outE_ns, resE_ns]
  rw [hE] at f1 f2 f7 f8
  generalize hnsd : outNs n 0 sg.args ++ resNs n 0 sg.res = ns at *
  have hM : Z.flatMap (·.ms) ++ resMs n sh 0 sg.res = (ns.zip (outBs sg.args ++ resBs sg.res)).map fun q => q.2.mode sh q.1 := by
    rw [← hnsd, z6, outMs_ns, resMs_ns, List.zip_append (outNs_length n 0 sg.args), List.map_append]
  obtain ⟨hand, hown, hsh⟩ : Hand w' (outBs sg.args ++ resBs sg.res) (Z.flatMap (fun z => ptrVs w' z.v) ++ resVs w' sg.res rs) (Z.flatMap (·.cs) ++ resCs rvs) ∧ _ ∧ _ := by
    rw [z4, z5]; exact ⟨hx.hand, hx.own, hx.sh⟩
  rw [← z4, ← z5] at hown hsh
  generalize hbsd : outBs sg.args ++ resBs sg.res = bs at *
  generalize hvsd : Z.flatMap (fun z => ptrVs w' z.v) ++ resVs w' sg.res rs = vs at *
  generalize hcsd : Z.flatMap (·.cs) ++ resCs rvs = cs at *
  -- the states
  have hL : ∀ e, (zS Z s1).L e = true ↔ (s.L e = true ∧ e ∉ os) ∨ e ∈ owNs ns bs := by
    intro e; rw [y2, f7, killL_iff]
  have hU : ∀ e, (zS Z s1).U e = true ↔ s.U e = true ∨ e ∈ owNs ns bs := by
    intro e; rw [y3, f8]; rfl
  have hfU : ∀ e ∈ owNs ns bs, s.U e = false := f2
  have hEU : ∀ e ∈ owNs ns bs, s.L e ≠ true := fun e he hl => by have := h.used e hl; rw [hfU e he] at this; cases this
  have hbs1 : ∀ k, ((zS Z s1).b k).isSome = true → (s.b k).isSome = true := by
    intro k hk
    by_cases hkz : k ∈ Z.map (·.b)
    · rw [z1] at hkz; exact hbs k hkz
    · rw [y4 k hkz, f4] at hk; exact hk
  let lam' : Nat → List Nat := fun e => if e ∈ owNs ns bs then fpOf w' e ns bs vs cs else g.lam e
  let g2 : Gh := { lam := lam', bet := g.bet, rch := g.rch }
  have hlamE : ∀ e ∈ owNs ns bs, lam' e = fpOf w' e ns bs vs cs := fun e he => if_pos he
  have hlamO : ∀ e, e ∉ owNs ns bs → lam' e = g.lam e := fun e he => if_neg he
  have hnewB : ∀ e ∈ owNs ns bs, ∀ b ∈ lam' e, Blk w' .ow bs vs cs b := by
    intro e he b hb
    rw [hlamE e he] at hb
    obtain ⟨j, v, c, h1, h2, h3, h4, h5⟩ := fpOf_mem hb
    exact ⟨j, v, c, h3, h4, h2, h5⟩
  have hEdis : ∀ e e', e ∈ owNs ns bs → e' ∈ owNs ns bs → ∀ b, b ∈ lam' e → b ∈ lam' e' → e = e' := by
    intro e e' he he' b hb hb'
    rw [hlamE e he] at hb
    rw [hlamE e' he'] at hb'
    obtain ⟨j, v, c, h1, h2, h3, h4, h5⟩ := fpOf_mem hb
    obtain ⟨j', v', c', h1', h2', h3', h4', h5'⟩ := fpOf_mem hb'
    by_cases hjj : j = j'
    · subst hjj; rw [h1] at h1'; exact Option.some.inj h1'
    · exact absurd h5' (hand.apart j j' v v' c c' hjj h3 h4 h2 h3' h4' h2' b h5)
  have hltL : ∀ e b, s.L e = true → b ∈ g.lam e → b < w.heap.size := by
    intro e b he hb
    obtain ⟨_, c, t, hct⟩ := h.live e he b hb
    rcases Nat.lt_or_ge b w.heap.size with hlt | hge
    · exact hlt
    · rw [Array.getElem?_eq_none hge] at hct; cases hct
  -- an owned block of the call's is in no class that lives on
  have hgone : ∀ e b, s.L e = true → e ∉ os → b ∈ g.lam e → ¬ (w.heap.size ≤ b ∨ Blk w .ow (argBs sg.args) (argVs w sg.args vals) (argCs as) b) := by
    rintro e b he hno hb (hge | hbk)
    · have := hltL e b he hb; omega
    · obtain ⟨⟨e', he', hL', hb'⟩, _⟩ := hf.ow b hbk
      have : e ≠ e' := fun h => hno (h ▸ he')
      exact h.apart e e' he hL' this b hb hb'
  have hmv : Mv F s (zS Z s1) σ (zD Z σ) a a w w' g g2 (fun _ => False) (· ∈ Z.map (·.b)) (fun _ => False) := by
    constructor
    · exact hx.size
    · exact hx.os
    · exact hx.tape
    · exact hx.output
    · rfl
    · intro e he hu
      rcases (hL e).1 he with h1 | h1
      · exact ⟨h1.1, hlamO e fun hm => by rw [hfU e hm] at hu; cases hu⟩
      · rw [hfU e h1] at hu; cases hu
    · intro e he hu b hb
      rcases (hL e).1 he with h1 | h1
      · have := h.used e h1.1; rw [hu] at this; cases this
      · rcases (hown b (hnewB e h1 b hb)).1 with h2 | h2
        · exact .inl h2
        · obtain ⟨⟨e', he', hL', hb'⟩, _⟩ := hf.ow b h2
          refine .inr ⟨e', hL', ?_, hb'⟩
          cases hh : (zS Z s1).L e' with
          | false => rfl
          | true =>
            rcases (hL e').1 hh with h3 | h3
            · exact absurd he' h3.2
            · exact absurd hL' (hEU e' h3)
    · intro b hb hd hk
      refine hx.block b hb (fun hbk => ?_) fun hbm => ?_
      · obtain ⟨⟨e', he', hL', hb'⟩, _⟩ := hf.ow b hbk
        refine hd e' hL' ?_ hb'
        cases hh : (zS Z s1).L e' with
        | false => rfl
        | true =>
          rcases (hL e').1 hh with h3 | h3
          · exact absurd he' h3.2
          · exact absurd hL' (hEU e' h3)
      · rw [hbx] at hbm
        obtain ⟨k, hkm, rfl⟩ := List.mem_map.1 hbm
        exact hk k (hbs k hkm) (by rw [z1]; exact hkm) rfl
    · intro k hk _; exact ⟨hbs1 k hk, rfl⟩
    · intro k _ hN; exact hN.elim
    · intro k hk
      obtain ⟨z, hz, rfl⟩ := List.mem_map.1 hk
      right; rw [y5 hZn z hz]; rfl
    · intro k _; exact ⟨by rw [y1, f3]; rfl, by rw [d1], rfl⟩
    · intro k hk _; exact ⟨by rw [y4 k hk, f4]; rfl, d2 k hk⟩
    · intro e he; exact (hU e).2 (.inl he)
  have hshU : ∀ e ∈ sh, s.U e = true := fun e he => h.used e (hf.shL e he)
  have hmU : ∀ m ∈ Z.flatMap (·.ms) ++ resMs n sh 0 sg.res, ∀ e ∈ m.deps, (zS Z s1).U e = true := by
    intro m hm e he
    rw [hM] at hm
    rcases modes_deps hm e he with h1 | h1
    · exact (hU e).2 (.inl (hshU e h1))
    · exact (hU e).2 (.inr h1)
  have hall : CellsOK ((zS Z s1).cx w' g2) vs cs (Z.flatMap (·.ms) ++ resMs n sh 0 sg.res) := by
    refine hand_cells (x := (zS Z s1).cx w' g2) (ns := ns) hand hns hM ?_ ?_ ?_
    · intro j v c e hv hc hb he b hbf
      have heE : e ∈ owNs ns bs := mem_owNs.2 ⟨j, he, hb⟩
      have hbl : b ∈ lam' e := by rw [hlamE e heE, fpOf_at f1 he hb hv hc]; exact hbf
      refine ⟨hbl, fun e' he' hbe' => ?_⟩
      rcases (hL e').1 he' with h1 | h1
      · have h2 : b ∈ g.lam e' := by
          have h3 : b ∈ lam' e' := hbe'
          rw [hlamO e' (fun hm => hEU e' hm h1.1)] at h3; exact h3
        exact absurd (hown b ⟨j, v, c, hv, hc, hb, hbf⟩).1 (hgone e' b h1.1 h1.2 h2)
      · exact hEdis e' e h1 heE b hbe' hbl
    · intro b hbk e he hbe
      rcases (hL e).1 he with h1 | h1
      · have h2 : b ∈ g.lam e := by
          have h3 : b ∈ lam' e := hbe
          rw [hlamO e (fun hm => hEU e hm h1.1)] at h3; exact h3
        have hg := hgone e b h1.1 h1.2 h2
        rcases hsh b hbk with h3 | h3 | h3
        · exact absurd (.inl h3) hg
        · exact absurd (.inr h3) hg
        · exact (hf.sh b h3).1 e h1.1 h2
      · exact absurd hbk (hown b (hnewB e h1 b hbe)).2.2
    · intro b k hbk
      have hor : w.heap.size ≤ b ∨ Blk w .ow (argBs sg.args) (argVs w sg.args vals) (argCs as) b ∨ Blk w .sh (argBs sg.args) (argVs w sg.args vals) (argCs as) b := by
        cases k with
        | sc =>
          obtain ⟨j, v, c, h1, h2, h3, h4⟩ := hbk
          have h4' : b ∈ fp w' v c := h4
          rw [(hand.each j v c _ h1 h2 h3).2.1 rfl] at h4'; cases h4'
        | ow => exact (hown b hbk).1.elim .inl fun h => .inr (.inl h)
        | sh => exact hsh b hbk
      rcases hor with h1 | h1 | h1
      · refine ⟨fun i hi => ?_, (h.reach b).2 (.inl (.inl (Nat.le_trans h.kept.size h1)))⟩
        have hi' := hbs1 i hi
        obtain ⟨ms, hms⟩ := Option.isSome_iff_exists.1 hi'
        obtain ⟨_, c, t, hct, _⟩ := h.boxes i ms hms
        intro he
        have : w.heap[b]? = none := Array.getElem?_eq_none h1
        have he' : b = g.bet i := he
        rw [he', hct] at this; cases this
      · exact ⟨fun i hi => (hf.ow b h1).2.1 i (hbs1 i hi), (hf.ow b h1).2.2⟩
      · exact ⟨fun i hi => (hf.sh b h1).2.1 i (hbs1 i hi), (hf.sh b h1).2.2⟩
  have hlen : (Z.flatMap (fun z => ptrVs w' z.v)).length = (Z.flatMap (·.ms)).length ∧ (Z.flatMap (·.cs)).length = (Z.flatMap (·.ms)).length := by
    clear hall hmU hM hmv y5 y4 y6 y7 hZn hZb z1 z4 z5 z6 z7 hvsd hcsd hL hU hbs1 d2 d3 y1 y2 y3 d1 z2 hfr hlay
    induction Z with
    | nil => simp
    | cons z Z ih =>
      have hz := z8 z (by simp)
      have := ih fun z hz => z8 z (by simp [hz])
      simp only [List.flatMap_cons, List.length_append]
      omega
  rw [← hvsd, ← hcsd] at hall
  have hZc := cells_flat Z (fun z hz => ⟨(z8 z hz).2.2, (z8 z hz).2.1⟩) (hall.splitL hlen.1 hlen.2)
  refine ⟨g2, h.mv hmv h.size h.defers ?_ ?_ ?_ ?_ ?_ ?_ ?_ ?_ ?_ (fun k hk => hk.elim), hall.splitR hlen.1 hlen.2, fun m hm => hmU m (List.mem_append_right _ hm)⟩
  · intro e he hu
    rcases (hL e).1 he with h1 | h1
    · have := h.used e h1.1; rw [hu] at this; cases this
    · refine ⟨fun b hb => ?_, (hU e).2 (.inr h1)⟩
      obtain ⟨h2, h3, _⟩ := hown b (hnewB e h1 b hb)
      refine ⟨?_, h3⟩
      rcases h2 with h2 | h2
      · exact .inl (Nat.le_trans h.kept.size h2)
      · obtain ⟨⟨e', he', hL', hb'⟩, _⟩ := hf.ow b h2
        exact (h.live e' hL' b hb').1
  · intro e e' he he' hu hu' hne b hb hb'
    rcases (hL e).1 he with h1 | h1
    · have := h.used e h1.1; rw [hu] at this; cases this
    · rcases (hL e').1 he' with h2 | h2
      · have := h.used e' h2.1; rw [hu'] at this; cases this
      · exact hne (hEdis e e' h1 h2 b hb hb')
  · intro k hk; exact hk.elim
  · intro k ms hk hms
    have hk : k ∈ Z.map (·.b) := hk.elim id (fun h => h.elim)
    obtain ⟨z, hz, rfl⟩ := List.mem_map.1 hk
    rw [y5 hZn z hz] at hms
    cases hms
    obtain ⟨cells, t, hv, hheap⟩ := hZb z hz
    have hc := hZc z hz
    rw [hv, ptrVs_box hheap] at hc
    refine ⟨fun hN => hN.elim, ⟨cells, t, hheap, ?_⟩, fun m hm => hmU m (List.mem_append_left _ (List.mem_flatMap.2 ⟨z, hz, hm⟩))⟩
    rw [d3 hZn z hz]; exact hc
  · intro k hk; exact hk.elim
  · intro k k' hk; exact hk.elim
  · intro k q gd' hk
    obtain ⟨h1, h2⟩ := y6 k q gd' hk
    rw [f5] at h1
    refine .inl ⟨h1, id, fun _ _ => id, fun _ _ => id, fun b hb => ⟨h2 b hb, id⟩, fun b o _ => ⟨id, fun hb => ?_⟩⟩
    by_cases hbz : b ∈ Z.map (·.b)
    · obtain ⟨z, hz, rfl⟩ := List.mem_map.1 hbz
      rw [y5 hZn z hz]; rfl
    · rw [y4 b hbz, f4]; exact hb
  · intro k p q hk
    obtain ⟨h1, h2⟩ := y7 k p q hk
    rw [f6] at h1
    exact .inl ⟨h1, id, fun _ _ => id, fun _ _ => id, fun b hb => ⟨h2 b hb, id⟩⟩
  · intro i k hi hk _
    have hk : k ∈ Z.map (·.b) := hk.elim id (fun h => h.elim)
    rw [z1] at hk
    exact absurd hk (hro i k hi)
end
end Go.Opt
/- The operation 'call': the result is put. -/
set_option linter.unusedVariables false
namespace Go.Opt
open Go.RowKit

def RV.dv1 : RV → DV
  | .c x => .c x
  | .agg xs => .agg xs
  | _ => .undef

theorem Value.cells_plain {v : Value} (h : ∀ vs, v ≠ .agg vs) : v.cells.toList = [v] := by
  cases v <;> first | rfl | exact absurd rfl (h _)

theorem vok_res {x : Cx} {n : Nat} {w : World} {agg : Bool} {bs : List BM} {ms : List CM} {rv : RV} {v : Value} (hl : ms.length = bs.length) (h : ResShape n w (.v agg bs) rv v) (hC : CellsOK x v.cells.toList rv.cells ms) : VOK x agg ms rv.dv1 v ∧ rv.dv1.cellsL = rv.cells := by
  cases rv with
  | c c =>
    obtain ⟨rfl, hb, hv⟩ := h
    refine ⟨?_, rfl⟩
    simp only [VOK, Bool.false_eq_true, if_false, RV.dv1]
    rw [Value.cells_plain hv] at hC
    exact ⟨c, rfl, hC⟩
  | agg cs =>
    obtain ⟨rfl, hb, vs, rfl, hs⟩ := h
    refine ⟨?_, rfl⟩
    simp only [VOK, if_true, RV.dv1]
    exact ⟨cs, vs, rfl, rfl, hC⟩
  | ptr _ => simp [ResShape] at h
  | tup _ => simp [ResShape] at h

theorem tup_res {x : Cx} {n : Nat} {w : World} (d : Nat) (sh : List Nat) : ∀ (k : Nat) (ms : List RM) (rvs : List RV) (rs : List Value), ms.all RM.isV = true → ResShapes n w ms rvs rs → CellsOK x (resVs w ms rs) (resCs rvs) (resMs d sh k ms) →
    rvs.length = (resM d sh k ms).length ∧ rs.length = (resM d sh k ms).length ∧
    (∀ (i : Nat) (q : Bool × List CM) (dv : DV) (v : Value), (resM d sh k ms)[i]? = some q → (rvs.map RV.dv1)[i]? = some dv → rs[i]? = some v → VOK x q.1 q.2 dv v) ∧
    (rs.flatMap fun v => v.cells.toList) = resVs w ms rs ∧ (rvs.map RV.dv1).flatMap DV.cellsL = resCs rvs ∧ (resM d sh k ms).flatMap (·.2) = resMs d sh k ms
  | k, [], rvs, rs, hv, hs, hC => by
    cases rvs <;> cases rs <;> simp [ResShapes] at hs
    simp [resM, resVs, resCs, resMs]
  | k, .p _ :: ms, rvs, rs, hv, hs, hC => by simp [RM.isV] at hv
  | k, .v agg bs :: ms, rvs, rs, hv, hs, hC => by
    cases rvs with
    | nil => simp [ResShapes] at hs
    | cons rv rvs =>
      cases rs with
      | nil => simp [ResShapes] at hs
      | cons v rs =>
        simp only [ResShapes] at hs
        simp only [resVs, resCs, List.flatMap_cons, resMs, RM.vals, RM.modes] at hC
        have hl1 : v.cells.toList.length = (backM (atom d (64 * (k + 20))) sh 0 bs).length := by
          rw [backM_length]
          cases rv with
          | c c => obtain ⟨_, hb, hv⟩ := hs.1; rw [Value.cells_plain hv, hb]; rfl
          | agg cs => obtain ⟨_, hb, vs, rfl, hs'⟩ := hs.1; simpa [Value.cells] using hs'
          | ptr _ => simp [ResShape] at hs
          | tup _ => simp [ResShape] at hs
        have hl2 : rv.cells.length = (backM (atom d (64 * (k + 20))) sh 0 bs).length := by
          rw [backM_length]
          cases rv with
          | c c => obtain ⟨_, hb, hv⟩ := hs.1; rw [hb]; rfl
          | agg cs => exact hs.1.2.1
          | ptr _ => simp [ResShape] at hs
          | tup _ => simp [ResShape] at hs
        obtain ⟨i1, i2, i3, i4, i5, i6⟩ := tup_res d sh (k + 1) ms rvs rs (by simpa [RM.isV] using hv) hs.2 (hC.splitR hl1 hl2)
        obtain ⟨v1, v2⟩ := vok_res (backM_length _ _ _ _) hs.1 (hC.splitL hl1 hl2)
        refine ⟨by simp [resM, i1], by simp [resM, i2], fun i q dv u hq hd hu => ?_, ?_, ?_, ?_⟩
        · cases i with
          | zero =>
            simp only [resM, List.getElem?_cons_zero, List.map_cons, Option.some.injEq] at hq hd hu
            subst hq; subst hd; subst hu; exact v1
          | succ i =>
            simp only [resM, List.getElem?_cons_succ, List.map_cons] at hq hd hu
            exact i3 i q dv u hq hd hu
        · simp only [List.flatMap_cons, resVs, RM.vals, i4]
        · simp only [List.map_cons, List.flatMap_cons, resCs, v2]; rw [i5]; rfl
        · simp only [resM, List.flatMap_cons, resMs, RM.modes, i6]

section
variable {P : Program} {F : Frm} {s : SS} {σ : S} {a : Act} {w : World} {g : Gh} {Φ : Cl'} {G : Nat → Option Sg} {ro : List Nat} {gd : Option (Nat × Bool)} {σ1 : S} {s1 : SS}

/-- An operation that comes to an end, whatever it is. -/
def FinW (P : Program) (F : Frm) (o : Oper) (s : SS) (σ : S) (a : Act) (w : World) : Prop :=
  ∀ (K : Act → World → Prop) (Q : Go.Exit → Act → World → Prop), (∀ v w' g', Inv F s σ (a.put o.dst v) w' g' → K (a.put o.dst v) w') → o.wp P a w K Q

theorem Fin.finW {o : Oper} (h : Fin P F o s σ a w) : FinW P F o s σ a w := by
  intro K Q hK
  obtain ⟨nx, v, w', g', hr, hv, hI⟩ := h
  unfold Oper.wp
  rw [hr]
  rcases hv with rfl | ⟨rfl, rfl⟩
  · exact hK v w' g' hI
  · exact hK undef w' g' hI

theorem fin_call (h : Inv F s σ a w g) (hg : guardHolds σ gd) {o : Oper} {d : Option Nat} (hdst : o.dst = d) (hd : ∀ k, d = some k → k < F.n) (hroB : ∀ i k, (i, k) ∈ F.ro → k ∈ ro) {c : Call} {fid : FuncId} {f : Nat} {xs : List AX}
    (ho : o.op = .call c) (hc : c.callee = .value (.func fid)) (hargs : argsOk P c.argTypes.toList c.args.toList xs = true) (hcon : ∀ sg, G f = some sg → Con P sg fid (Φ f))
    (h1 : step Φ d (.call f xs) σ = some σ1) (h2 : sstep G ro gd d (.call f xs) s = some s1) : FinW P F o s1 σ1 a w := by
  intro K Q hK
  simp only [step] at h1
  simp only [sstep] at h2
  split at h1
  · rename_i as has
    split at h1
    · rename_i r hr
      split at h1
      · rename_i σ' hlay
        split at h2
        · rename_i n sg hG
          split at h2
          · cases h2
          · rename_i hok
            have hok : (callOk ro sg xs && aggsOk s sg.aggs xs) = true := by simpa using hok
            simp only [callOk, Bool.and_eq_true, decide_eq_true_eq] at hok
            obtain ⟨⟨⟨⟨hnd, hnro⟩, hio⟩, hresV⟩, hagg⟩ := hok
            split at h2
            · rename_i os sh hq
              split at h2
              · cases h2
              · rename_i hov
                have hov : overlaps os sh = false := by simpa using hov
                split at h2
                · rename_i s2 hfr
                  obtain ⟨a1, a2, a3, a4⟩ := args_hand h hg sg.args xs _ _ as os sh hargs hq hio has
                  have hent : Entry w sg.aggs sg.args as (c.args.toList.map a.eval) := by
                    refine ⟨a1, args_aggs h sg.args xs _ _ sg.aggs as hargs hio has hagg, a2.hand, fun b hb => ?_, ?_, fun b hb k hk => ?_⟩
                    · obtain ⟨⟨e, he, hL, hbe⟩, _⟩ := a2.ow b hb
                      exact ⟨(h.live e hL b hbe).2, fun hsh => overlaps_false hov e he ((a2.sh b hsh).1 e hL hbe)⟩
                    · rw [a3]
                      have : ∀ (l : List Nat), (∀ b ∈ l, (s.b b).isSome = true) → l.Nodup → (l.map g.bet).Nodup := by
                        intro l
                        induction l with
                        | nil => simp
                        | cons b l ih =>
                          intro hl hn
                          simp only [List.nodup_cons] at hn
                          simp only [List.map_cons, List.nodup_cons]
                          refine ⟨fun hm => ?_, ih (fun b hb => hl b (by simp [hb])) hn.2⟩
                          obtain ⟨b', hb', he⟩ := List.mem_map.1 hm
                          have := h.boxInj b' b (hl b' (by simp [hb'])) (hl b (by simp)) he
                          exact hn.1 (this ▸ hb')
                      exact this _ a4 hnd
                    · rw [a3] at hb
                      obtain ⟨i, hi, rfl⟩ := List.mem_map.1 hb
                      cases k with
                      | sc =>
                        obtain ⟨j, v, c', h1, h2, h3, h4⟩ := hk
                        have := (a2.hand.each j v c' _ h1 h2 h3).2.1 rfl
                        change fp w v c' = [] at this
                        rw [this] at h4; cases h4
                      | ow => exact (a2.ow _ hk).2.1 i (a4 i hi) rfl
                      | sh => exact (a2.sh _ hk).2.1 i (a4 i hi) rfl
                  have hC := (hcon sg hG).2 as r hr w _ hent
                  have hrun : (execOp a.eval o).run P w = .ok (.enter fid (c.args.toList.map a.eval).toArray) w := by
                    have e1 : (c.args.map a.eval) = (c.args.toList.map a.eval).toArray := by rw [← Array.toList_map]
                    simp only [execOp, ho, resolve, hc, Act.eval, Deferred.ofValue, Sem.run_bind, Sem.run_pure, Result.andThen_ok, invoke, e1]
                    simp only [Array.empty_append, Array.append_empty]
                    exact (hcon sg hG).1.run _ _
                  unfold Oper.wp
                  rw [hrun, Oper.upon_enter]
                  refine Calls.mono hC ?_
                  rintro e w' ⟨v, rfl, rvs, rs, hot, hx⟩
                  obtain ⟨g2, hI, hCr, hUr⟩ := call_jump h (vals := c.args.toList.map a.eval) a2 a3 a4 hnd (fun i k hi hk => by
                    rw [List.all_eq_true] at hnro
                    have := hnro k hk
                    simp [hroB i k hi] at this) hov hq hio hx hfr hlay
                  refine hK v w' g2 ?_
                  rw [hdst]
                  split at h2
                  · -- one result
                    rename_i agg bs hres
                    have hsh := hx.rshape
                    rw [hres] at hsh hCr hUr
                    cases rvs with
                    | nil => simp [ResShapes] at hsh
                    | cons rv rvs =>
                      cases rs with
                      | nil => simp [ResShapes] at hsh
                      | cons u rs =>
                        cases rvs with
                        | cons _ _ => cases rs <;> simp [ResShapes] at hsh
                        | nil =>
                          cases rs with
                          | cons _ _ => simp [ResShapes] at hsh
                          | nil =>
                            simp only [ResShapes, and_true] at hsh
                            rcases hot with ⟨e1, e2⟩ | ⟨e1, _⟩
                            · simp only [List.cons.injEq, and_true] at e1 e2
                              subst e2
                              simp only [resVs, List.append_nil, resCs, List.flatMap_cons, List.flatMap_nil, resMs, RM.vals, RM.modes] at hCr hUr
                              obtain ⟨v1, v2⟩ := vok_res (backM_length _ _ _ _) hsh hCr
                              obtain ⟨m, hm, rfl⟩ := Option.map_eq_some_iff.1 h2
                              have hT : TOK ((outB n sh 0 sg.args xs s2).cx w' g2) m rv.dv1 u ∧ m.cells = some (backM (atom n (64 * (0 + 20))) sh 0 bs) := by
                                cases rv with
                                | c c' =>
                                  obtain ⟨rfl, hb, _⟩ := hsh
                                  simp only [oneOrAggM, Bool.false_eq_true, if_false] at hm
                                  split at hm
                                  · rename_i m0 hm0
                                    cases hm
                                    rw [hm0] at v1
                                    exact ⟨v1, by rw [hm0]; rfl⟩
                                  · cases hm
                                | agg cs =>
                                  obtain ⟨rfl, _⟩ := hsh
                                  simp only [oneOrAggM, if_true, Option.some.injEq] at hm
                                  subst hm
                                  exact ⟨v1, rfl⟩
                                | ptr _ => simp [ResShape] at hsh
                                | tup _ => simp [ResShape] at hsh
                              have hσ : σ1 = σ'.put (some n) rv.dv1 := by
                                rw [← e1] at h1
                                cases rv with
                                | c c' => simp only [RV.dv, Option.some.injEq] at h1; rw [← h1]; rfl
                                | agg cs => simp only [RV.dv, Option.some.injEq] at h1; rw [← h1]; rfl
                                | ptr _ => simp [ResShape] at hsh
                                | tup _ => simp [ResShape] at hsh
                              rw [hσ]
                              have hd' := hd
                              refine hI.putD hd' hT.1 fun e he => ?_
                              cases m with
                              | dead => cases he
                              | tup _ => simp [M.cells] at hT
                              | c m0 =>
                                simp only [M.cells, Option.some.injEq] at hT
                                exact hUr m0 (by rw [← hT.2]; simp) e he
                              | agg ms0 =>
                                simp only [M.cells, Option.some.injEq] at hT
                                simp only [M.deps, List.mem_flatMap] at he
                                obtain ⟨q, hq, he⟩ := he
                                exact hUr q (by rw [← hT.2]; exact hq) e he
                            · simp at e1
                  · -- a tuple
                    rename_i rs0 hnot
                    have hsh := hx.rshape
                    obtain ⟨t1, t2, t3, t4, t5, t6⟩ := tup_res n sh 0 sg.res rvs rs hresV hsh hCr
                    have hlen : (resM n sh 0 sg.res).length ≠ 1 := by
                      intro hl
                      cases hres : sg.res with
                      | nil => rw [hres] at hl; simp [resM] at hl
                      | cons m ms =>
                        rw [hres] at hl
                        cases ms with
                        | cons m2 ms => cases m <;> cases m2 <;> simp [resM] at hl
                        | nil =>
                          cases m with
                          | v agg bs => exact hnot agg bs hres
                          | p bs => rw [hres] at hresV; simp [RM.isV] at hresV
                    rcases hot with ⟨e1, e2⟩ | ⟨e1, e2, e3⟩
                    · rw [e1] at t1; simp at t1; exact absurd t1.symm hlen
                    · simp only [Option.some.injEq] at h2
                      subst h2
                      have hσ : σ1 = σ'.put (some n) (.tup (rvs.map RV.dv1)) := by
                        rw [e2] at h1
                        simp only [RV.dv, Option.some.injEq] at h1
                        rw [← h1]
                        rfl
                      rw [hσ, e3]
                      refine hI.putD hd ?_ fun e he => ?_
                      · simp only [TOK]
                        refine ⟨_, _, rfl, rfl, by simpa using t1, by simpa using t2, ?_, ?_⟩
                        · simpa using t3
                        · have := hCr
                          rw [← t4, ← t5, ← t6] at this
                          simpa using this
                      · simp only [M.deps, List.mem_flatMap] at he
                        obtain ⟨q, hq, m, hm, he⟩ := he
                        refine hUr m ?_ e he
                        rw [← t6]
                        exact List.mem_flatMap.2 ⟨q, hq, hm⟩
                · cases h2
            · cases h2
        · cases h2
      · cases h1
    · cases h1
  · cases h1
end
end Go.Opt
/- One operation of a region, wanted or not. -/
set_option linter.unusedVariables false
namespace Go.Opt
open Go.RowKit

section
variable {P : Program} {F : Frm} {s : SS} {σ : S} {a : Act} {w : World} {g : Gh} {Φ : Cl'} {G : Nat → Option Sg} {ro : List Nat} {gd : Option (Nat × Bool)} {σ1 : S} {s1 : SS}

/-- Less is said. -/
theorem Inv.less (h : Inv F s σ a w g) {s1 : SS} (ht : s1.t = s.t) (hb : s1.b = s.b) (hU : s1.U = s.U) (hL : ∀ e, s1.L e = true → s.L e = true)
    (hp : ∀ k q gd, s1.p k = some (q, gd) → s.p k = some (q, gd)) (ha : ∀ k p q, s1.a k = some (p, q) → s.a k = some (p, q)) : Inv F s1 σ a w g := by
  have hmv : Mv F s s1 σ σ a a w w g g (fun _ => False) (fun _ => False) (fun _ => False) := by
    refine ⟨Nat.le_refl _, rfl, rfl, rfl, rfl, fun e he _ => ⟨hL e he, rfl⟩, fun e he hu => ?_, fun _ _ _ _ => rfl, fun k hk _ => ⟨by rw [← hb]; exact hk, rfl⟩, fun k _ hN => hN.elim, fun k hk => hk.elim, fun k _ => ⟨by rw [ht], rfl, rfl⟩, fun k _ _ => ⟨by rw [hb], rfl⟩, fun e he => by rw [hU]; exact he⟩
    have := h.used e (hL e he); rw [hu] at this; cases this
  refine h.mv hmv h.size h.defers (fun e he hu => ?_) (fun e e' he he' hu => ?_) (fun k hk => hk.elim) (fun k ms hk => (hk.elim id id).elim) (fun k hk => hk.elim) (fun k k' hk => hk.elim)
    (fun k q gd' hk => .inl ⟨hp k q gd' hk, id, fun _ _ => id, fun _ _ => id, fun _ _ => ⟨id, id⟩, fun _ _ _ => ⟨id, fun hh => by rw [hb]; exact hh⟩⟩) (fun k p q hk => .inl ⟨ha k p q hk, id, fun _ _ => id, fun _ _ => id, fun _ _ => ⟨id, id⟩⟩) (fun i k _ hk => (hk.elim id id).elim) (fun k hk => hk.elim)
  · have := h.used e (hL e he); rw [hu] at this; cases this
  · have := h.used e (hL e he); rw [hu] at this; cases this

theorem Inv.kills (h : Inv F s σ a w g) (es : List Nat) : Inv F (s.kill es) σ a w g :=
  h.less rfl rfl rfl (fun e he => ((killL_iff s es e).1 he).1) (fun _ _ _ h => h) (fun _ _ _ h => h)

theorem Inv.cutBs (h : Inv F s σ a w g) (b : Nat) : Inv F (s.cutB b) σ a w g :=
  h.less rfl rfl rfl (fun e he => he) (fun k q gd hk => (cutB_p s b k q gd hk).2) (fun k p q hk => (cutB_a s b k p q hk).2)

theorem Inv.freshens : ∀ {es : List Nat} {s s1 : SS} {g : Gh}, Inv F s σ a w g → s.freshs es = some s1 → ∃ g1, Inv F s1 σ a w g1
  | [], s, s1, g, h, hf => by simp only [SS.freshs, Option.some.injEq] at hf; subst hf; exact ⟨g, h⟩
  | e :: r, s, s1, g, h, hf => by
    simp only [SS.freshs] at hf
    split at hf
    · rename_i s' hs
      obtain ⟨hU, rfl⟩ := fresh_spec hs
      exact Inv.freshens (h.freshen hU) hf
    · cases hf

theorem outB_b (d : Nat) (sh : List Nat) : ∀ (k : Nat) (ms : List AM) (xs : List AX) (s : SS) (b : Nat), b ∉ xs.flatMap AX.pb → (outB d sh k ms xs s).b b = s.b b
  | k, [], xs, s, b, _ => by cases xs <;> rfl
  | k, m :: ms, [], s, b, _ => rfl
  | k, m :: ms, .p a b0 :: xs, s, b, hb => by
    simp only [List.flatMap_cons, AX.pb, List.singleton_append, List.mem_cons, not_or] at hb
    simp only [outB]
    rw [outB_b d sh (k + 1) ms xs _ b hb.2]
    exact upd_ne _ _ hb.1
  | k, m :: ms, .v x :: xs, s, b, hb => by
    simp only [List.flatMap_cons, AX.pb, List.nil_append] at hb
    simp only [outB]
    exact outB_b d sh (k + 1) ms xs _ b hb
  | k, m :: ms, .io x p q :: xs, s, b, hb => by
    simp only [List.flatMap_cons, AX.pb, List.nil_append] at hb
    simp only [outB]
    exact outB_b d sh (k + 1) ms xs _ b hb

theorem outB_U (d : Nat) (sh : List Nat) : ∀ (k : Nat) (ms : List AM) (xs : List AX) (s : SS), (outB d sh k ms xs s).U = s.U
  | k, [], xs, s => by cases xs <;> rfl
  | k, m :: ms, [], s => rfl
  | k, m :: ms, .p a b0 :: xs, s => by simp only [outB]; rw [outB_U d sh (k + 1) ms xs]; rfl
  | k, m :: ms, .v x :: xs, s => by simp only [outB]; exact outB_U d sh (k + 1) ms xs _
  | k, m :: ms, .io x p q :: xs, s => by simp only [outB]; exact outB_U d sh (k + 1) ms xs _

theorem Inv.outB_same (d : Nat) (sh : List Nat) : ∀ (k : Nat) (ms : List AM) (xs : List AX) (s : SS), Inv F s σ a w g → (xs.flatMap AX.pb).Nodup → (∀ b ∈ xs.flatMap AX.pb, (outB d sh k ms xs s).b b = s.b b) → Inv F (outB d sh k ms xs s) σ a w g
  | k, [], xs, s, h, _, _ => by cases xs <;> exact h
  | k, m :: ms, [], s, h, _, _ => h
  | k, m :: ms, .p a b0 :: xs, s, h, hn, hb => by
    simp only [List.flatMap_cons, AX.pb, List.singleton_append, List.nodup_cons, List.mem_cons, forall_eq_or_imp] at hn hb
    simp only [outB] at hb ⊢
    have e1 := hb.1
    rw [outB_b d sh (k + 1) ms xs _ b0 hn.1] at e1
    simp only [upd_same] at e1
    have e2 : ({ s.cutB b0 with b := upd s.b b0 (some (backM (atom d (64 * (k + 1))) sh 0 m.outs)) } : SS) = s.cutB b0 := by
      have : upd s.b b0 (some (backM (atom d (64 * (k + 1))) sh 0 m.outs)) = s.b := by
        funext j
        by_cases hj : j = b0
        · subst hj; rw [upd_same, e1]
        · rw [upd_ne _ _ hj]
      rw [this]; rfl
    rw [e2] at hb ⊢
    exact Inv.outB_same d sh (k + 1) ms xs _ (h.cutBs b0) hn.2 hb.2
  | k, m :: ms, .v x :: xs, s, h, hn, hb => by
    simp only [List.flatMap_cons, AX.pb, List.nil_append] at hn hb
    simp only [outB] at hb ⊢
    exact Inv.outB_same d sh (k + 1) ms xs s h hn hb
  | k, m :: ms, .io x p q :: xs, s, h, hn, hb => by
    simp only [List.flatMap_cons, AX.pb, List.nil_append] at hn hb
    simp only [outB] at hb ⊢
    exact Inv.outB_same d sh (k + 1) ms xs s h hn hb

theorem backM_deps {sh : List Nat} {e0 : Nat} : ∀ {j : Nat} {bs : List BM}, ∀ m ∈ backM e0 sh j bs, ∀ e ∈ m.deps, e ∈ sh ∨ e ∈ backE e0 j bs := by
  intro j bs m hm e he
  rw [backM_ns] at hm
  rw [backE_ns]
  exact modes_deps hm e he

theorem resM_deps {n : Nat} {sh : List Nat} : ∀ (k : Nat) (ms : List RM), ∀ e ∈ (M.tup (resM n sh k ms)).deps, e ∈ sh ∨ e ∈ resE n k ms := by
  intro k ms e he
  simp only [M.deps, List.mem_flatMap] at he
  obtain ⟨q, hq, m, hm, he⟩ := he
  induction ms generalizing k with
  | nil => simp [resM] at hq
  | cons r ms ih =>
    cases r with
    | v agg bs =>
      simp only [resM, List.mem_cons] at hq
      rcases hq with rfl | hq
      · exact (backM_deps m hm e he).imp id fun h => by simp only [resE]; exact List.mem_append_left _ h
      · exact (ih (k + 1) hq).imp id fun h => by simp only [resE]; exact List.mem_append_right _ h
    | p bs =>
      simp only [resM, List.mem_cons] at hq
      rcases hq with rfl | hq
      · exact (backM_deps m hm e he).imp id fun h => by simp only [resE]; exact List.mem_append_left _ h
      · exact (ih (k + 1) hq).imp id fun h => by simp only [resE]; exact List.mem_append_right _ h

theorem argsM_sh : ∀ (ms : List AM) (xs : List AX) (os sh : List Nat), argsM s gd ms xs = some (os, sh) → ∀ e ∈ sh, s.L e = true
  | [], [], os, sh, h => by simp only [argsM, Option.some.injEq, Prod.mk.injEq] at h; rw [← h.2]; simp
  | [], _ :: _, os, sh, h => by simp [argsM] at h
  | _ :: _, [], os, sh, h => by simp [argsM] at h
  | m :: ms, x :: xs, os, sh, h => by
    simp only [argsM] at h
    split at h
    · cases h
    · rename_i os' ss' hr
      have ih := argsM_sh ms xs os' ss' hr
      repeat' split at h
      all_goals first | (cases h; done) | skip
      all_goals simp only [Option.some.injEq, Prod.mk.injEq] at h
      all_goals obtain ⟨_, rfl⟩ := h
      all_goals first
        | (intro e he
           rcases List.mem_append.1 he with he | he
           · exact takeS_alive (by assumption) e he
           · exact ih e he)
        | exact ih

/-- A call that is not wanted. -/
theorem skip_call (h : Inv F s σ a w g) {d : Option Nat} (hd : ∀ k, d = some k → k < F.n) {f : Nat} {xs : List AX} (h2 : sstep G ro gd d (.call f xs) s = some s1) (hgd : guardable s s1 (.call f xs) = true) :
    ∃ g1, Inv F s1 (σ.put d .undef) (a.put d undef) w g1 := by
  simp only [sstep] at h2
  split at h2
  · rename_i n sg hG
    split at h2
    · cases h2
    · rename_i hok
      have hok : (callOk ro sg xs && aggsOk s sg.aggs xs) = true := by simpa using hok
      simp only [callOk, Bool.and_eq_true, decide_eq_true_eq] at hok
      obtain ⟨⟨⟨⟨hnd, hnro⟩, hio⟩, hresV⟩, hagg⟩ := hok
      split at h2
      · rename_i os sh hq
        split at h2
        · cases h2
        · split at h2
          · rename_i s2 hfr
            have hsh := argsM_sh sg.args xs os sh hq
            obtain ⟨f1, f2, f3, f4, f5, f6, f7, f8⟩ := freshs_spec hfr
            obtain ⟨g1, hI⟩ := (h.kills os).freshens hfr
            have hpb : ∀ b ∈ xs.flatMap AX.pb, s1.b b = s.b b := by
              intro b hb
              simp only [guardable, List.all_eq_true] at hgd
              obtain ⟨x, hx, hbx⟩ := List.mem_flatMap.1 hb
              have := hgd x hx
              cases x with
              | v _ => cases hbx
              | io _ _ _ => cases hbx
              | p a0 b0 =>
                simp only [AX.pb, List.mem_singleton] at hbx
                subst hbx
                simpa using this
            have hU : ∀ e, (e ∈ sh ∨ e ∈ resE n 0 sg.res) → (outB n sh 0 sg.args xs s2).U e = true := by
              intro e he
              rw [outB_U, f8]
              rcases he with he | he
              · exact .inl (h.used e (hsh e he))
              · exact .inr (List.mem_append_right _ he)
            have hO : (∀ b, s1.b b = (outB n sh 0 sg.args xs s2).b b) → Inv F (outB n sh 0 sg.args xs s2) σ a w g1 := by
              intro hb1
              refine Inv.outB_same n sh 0 sg.args xs s2 hI hnd fun b hb => ?_
              rw [← hb1 b, hpb b hb, f4]; rfl
            split at h2
            · rename_i agg bs hres
              obtain ⟨m, hm, rfl⟩ := Option.map_eq_some_iff.1 h2
              refine ⟨g1, (hO fun b => rfl).skip_put hd fun e he => hU e ?_⟩
              obtain ⟨q, hq, hqe⟩ := oneOrAggM_deps hm e he
              rw [hres]
              exact (backM_deps q hq e hqe).imp id fun h => by simp only [resE, List.append_nil]; exact h
            · simp only [Option.some.injEq] at h2
              subst h2
              exact ⟨g1, (hO fun b => rfl).skip_put hd fun e he => hU e (resM_deps 0 sg.res e he)⟩
          · cases h2
      · cases h2
  · cases h2

/-! ### Guards -/
theorem getD_bool {ts : Array Value} {t : Nat} {v : Bool} (h : ts.getD t undef = .bool v) : ts[t]? = some (.bool v) := by
  rw [Array.getD_eq_getD_getElem?] at h
  cases ht : ts[t]? with
  | none => rw [ht] at h; simp [undef] at h
  | some x => rw [ht] at h; simp at h; rw [h]

theorem yielded_spec {ops : Array Oper} {ts : Array Value} {j t : Nat} (hj : (ops[j]?).bind (·.dst) = some t) :
    (∀ v, ts.getD t undef = .bool v → yielded ops ts j = some v) ∧ ((∀ v, ts.getD t undef ≠ .bool v) → yielded ops ts j = none) := by
  unfold yielded
  rw [hj]
  constructor
  · intro v hv
    simp only [Option.bind_some, getD_bool hv]
  · intro hv
    simp only [Option.bind_some]
    cases ht : ts[t]? with
    | none => rfl
    | some x =>
      have : ts.getD t undef = x := by rw [Array.getD_eq_getD_getElem?, ht]; rfl
      rw [this] at hv
      cases x <;> first | rfl | exact absurd rfl (hv _)

/-- What all operations of a function's keep to. -/
structure Fits (F : Frm) (ro : List Nat) (o : Op') : Prop where
  dst : ∀ k, o.dst = some k → k < F.n
  roB : ∀ i k, (i, k) ∈ F.ro → k ∈ ro

/-- ONE OPERATION. -/
theorem op_ok {N : Names} (h : Inv F s σ a w g) {ops : Array Oper} {dr : Bool} {o : Oper} {q : Op'} (hok : operOk P N ops dr o q = true) (hfit : Fits F ro q) (hro : RoOK F a q.dst q.op)
    (hcon : ∀ f fid sg, N fid = some f → G f = some sg → Con P sg fid (Φ f)) (h1 : stepG Φ q σ = some σ1) (h2 : sstepG G ro q s = some s1) :
    o.dst = q.dst ∧ ((Region.wanted o (yielded ops a.tmps) = true ∧ FinW P F o s1 σ1 a w) ∨ (Region.wanted o (yielded ops a.tmps) = false ∧ ∃ g1, Inv F s1 σ1 (a.put o.dst undef) w g1)) := by
  simp only [operOk, Bool.and_eq_true, beq_iff_eq] at hok
  obtain ⟨⟨⟨⟨hop, hdst⟩, hst⟩, hgok⟩, _⟩ := hok
  refine ⟨hdst, ?_⟩
  have hrun : ∀ gd, guardHolds σ gd → sstep G ro gd q.dst q.op s = some s1 → step Φ q.dst q.op σ = some σ1 → FinW P F o s1 σ1 a w := by
    intro gd hg hs hd
    by_cases hc : ∃ f as, q.op = .call f as
    · obtain ⟨f, as, hfa⟩ := hc
      rw [hfa] at hop hs hd
      unfold opOk at hop
      generalize ho : o.op = op at hop
      cases op <;> simp only at hop
      case call c =>
        split at hop
        · rename_i fid hcal
          simp only [Bool.and_eq_true, beq_iff_eq] at hop
          exact fin_call h hg hdst hfit.dst hfit.roB ho hcal hop.2 (fun sg hG => hcon f fid sg hop.1 hG) hd hs
        · cases hop
      all_goals first | (exfalso; simp [normOp] at hop; done) | skip
      all_goals exfalso
      all_goals simp only [normOp, beq_iff_eq] at hop
      all_goals repeat' split at hop
      all_goals simp at hop
    · refine (fin_op h hdst hop (fun hs => ?_) hg hfit.dst hro hfit.roB (fun f as hfa => hc ⟨f, as, hfa⟩) hd hs).finW
      cases hqo : q.op with
      | stB _ _ _ _ _ => rw [hqo] at hst; simpa using hst
      | stE _ _ _ _ _ => rw [hqo] at hst; simpa using hst
      | _ => rw [hqo] at hs; cases hs
  have hskip : ∀ gd, ¬ guardHolds σ gd → sstep G ro gd q.dst q.op s = some s1 → guardable s s1 q.op = true → ∃ g1, Inv F s1 (σ.put q.dst .undef) (a.put o.dst undef) w g1 := by
    intro gd hg hs hgd
    rw [hdst]
    by_cases hc : ∃ f as, q.op = .call f as
    · obtain ⟨f, as, hfa⟩ := hc
      rw [hfa] at hs hgd
      exact skip_call h hfit.dst hs hgd
    · exact skip_ok h hfit.dst hg (fun f as hfa => hc ⟨f, as, hfa⟩) hs hgd
  unfold Region.wanted
  unfold stepG at h1
  unfold sstepG at h2
  cases hqg : q.guard with
  | none =>
    rw [hqg] at h1 h2 hgok
    have : o.guard = none := by cases ho : o.guard with
      | none => rfl
      | some x => rw [ho] at hgok; simp [guardOk] at hgok
    rw [this]
    exact .inl ⟨rfl, hrun none trivial h2 h1⟩
  | some x =>
    obtain ⟨t, want⟩ := x
    rw [hqg] at h1 h2 hgok
    simp only at h1 h2
    cases hog : o.guard with
    | none => rw [hog] at hgok; simp [guardOk] at hgok
    | some y =>
      obtain ⟨j, want'⟩ := y
      rw [hog] at hgok
      simp only [guardOk, Bool.and_eq_true, beq_iff_eq] at hgok
      obtain ⟨hj, rfl⟩ := hgok
      obtain ⟨y1, y2⟩ := yielded_spec (ts := a.tmps) hj
      split at h2
      · rename_i hsc
        split at h2
        · rename_i s1' hs
          split at h2
          · rename_i hgd
            cases h2
            have hT := h.tmps t
            simp only [scalarX, XM] at hsc
            split at hsc
            · rename_i m hm
              rw [hm] at hT
              split at h1
              · rename_i v hv
                rw [hv] at hT
                have hval : a.tmps.getD t undef = .bool v := hT.of_cell.1
                have hW := y1 v hval
                by_cases hvw : v = want'
                · subst hvw
                  rw [if_pos rfl] at h1
                  exact .inl ⟨by simp only [hW, beq_self_eq_true], hrun _ (by simp only [guardHolds, hv]) hs h1⟩
                · rw [if_neg hvw] at h1
                  cases h1
                  have hne : (some v == some want') = false := by simpa using hvw
                  exact .inr ⟨by simp only [hW, hne], hskip _ (by simp only [guardHolds, hv]; intro he; cases he; exact hvw rfl) hs hgd⟩
              · rename_i hv
                rw [hv] at hT
                have hval : ∀ b, a.tmps.getD t undef ≠ .bool b := hT
                cases h1
                have hW := y2 hval
                have hne : ((none : Option Bool) == some want') = false := rfl
                exact .inr ⟨by simp only [hW, hne], hskip _ (by simp only [guardHolds, hv]; intro he; cases he) hs hgd⟩
              · cases h1
            · cases hsc
          · cases h2
        · cases h2
      · cases h2
end
end Go.Opt
/- What an operation does to the static state, as data, is what the static step does. -/
set_option linter.unusedVariables false
namespace Go.Opt
open Go.RowKit

theorem on_eq {s s' : SS} {δ : Dl} (ht : s'.t = (δ.on s).t) (hb : s'.b = (δ.on s).b) (hp : s'.p = (δ.on s).p) (hL : s'.L = (δ.on s).L) (hU : s'.U = (δ.on s).U) : noA s' = δ.on s := by
  obtain ⟨t, b, p, a, L, U⟩ := s'
  simp only at ht hb hp hL hU
  subst ht; subst hb; subst hp; subst hL; subst hU
  rfl

/-- What a cut leaves of what is known of a pointer. -/
theorem cutT_p_eq (s : SS) (n k : Nat) : (s.cutT n).p k = if k = n then none else match s.p k with
    | some (q, h) => if q.tmps.contains n || (gTmps h).contains n then none else some (q, h)
    | none => none := by
  simp only [SS.cutT]
  by_cases hk : k = n
  · subst hk; simp only [true_or, if_true]; cases s.p k <;> rfl
  · simp only [hk, false_or, if_false]
    cases s.p k with
    | none => rfl
    | some x =>
      simp only [Bool.or_eq_true, List.contains_eq_mem, decide_eq_true_eq]
theorem cutB_p_eq (s : SS) (b k : Nat) : (s.cutB b).p k = match s.p k with
    | some (q, h) => if q.boxes.contains b then none else some (q, h)
    | none => none := by
  simp only [SS.cutB]
  cases s.p k with
  | none => rfl
  | some x => simp only [List.contains_eq_mem, decide_eq_true_eq]

theorem put_on {s : SS} {d : Option Nat} {m : M} {δ : Dl} (h1 : δ.n = d) (h2 : δ.m = m) (h3 : δ.pw = none) (h4 : δ.nb = false) (h5 : δ.bw = []) (h6 : δ.kill = []) (h7 : δ.fr = []) : noA (s.put d m) = δ.on s := by
  subst h1; subst h2
  apply on_eq
  · simp only [SS.put, Dl.on]; cases δ.n <;> rfl
  · funext k; simp only [SS.put, Dl.on, h5]; cases δ.n <;> rfl
  · funext k
    simp only [Dl.on, Dl.cuts, h3, h4, h5]
    cases hn : δ.n with
    | none => simp [SS.put]; cases s.p k <;> rfl
    | some n =>
      simp only [SS.put, cutT_p_eq]
      by_cases hk : k = n
      · subst hk; simp
      · have : ¬ (some n = some k) := fun h => hk (by cases h; rfl)
        simp only [hk, this, if_false]
        cases s.p k with
        | none => rfl
        | some x => simp
  · funext e; simp only [Dl.on, h6, h7]; cases δ.n <;> simp [SS.put, SS.cutT]
  · funext e; simp only [Dl.on, h7]; cases δ.n <;> simp [SS.put, SS.cutT]

theorem putA_on {s : SS} {d : Option Nat} {m : M} {q : Option (Place × PathX)} : noA (s.putA d m q) = noA (s.put d m) := by
  cases d <;> rfl

theorem putP_on {s : SS} {d : Option Nat} {x : Ptr × Option (Nat × Bool)} {δ : Dl} (hd : d.isSome = true) (h1 : δ.n = d) (h2 : δ.m = .dead) (h3 : δ.pw = some x) (h4 : δ.nb = false) (h5 : δ.bw = []) (h6 : δ.kill = []) (h7 : δ.fr = []) : noA (s.putP d x) = δ.on s := by
  cases d with
  | none => cases hd
  | some n =>
    apply on_eq
    · simp only [SS.putP, Dl.on, h1, h2]
    · funext k; simp only [SS.putP, Dl.on, h5]; rfl
    · funext k
      simp only [SS.putP, Dl.on, Dl.cuts, h1, h3, h4, h5]
      by_cases hk : k = n
      · subst hk; simp [upd_same]
      · have : ¬ (some n = some k) := fun h => hk (by cases h; rfl)
        rw [upd_ne _ _ hk, cutT_p_eq]
        simp only [hk, this, if_false]
        cases s.p k with
        | none => rfl
        | some x => simp
    · funext e; simp [Dl.on, h6, h7, SS.putP, SS.cutT]
    · funext e; simp [Dl.on, h7, SS.putP, SS.cutT]

theorem newBox_on {s : SS} {n : Nat} {ms : List CM} {δ : Dl} (h1 : δ.n = some n) (h2 : δ.m = .dead) (h3 : δ.pw = some (.box n 0, none)) (h4 : δ.nb = true) (h5 : δ.bw = [(n, ms)]) (h6 : δ.kill = []) (h7 : δ.fr = []) : noA (s.newBox n ms) = δ.on s := by
  apply on_eq
  · simp only [SS.newBox, SS.put, Dl.on, h1, h2]; rfl
  · funext k
    simp only [SS.newBox, Dl.on, h5, List.lookup_cons]
    by_cases hk : k = n
    · subst hk; simp [upd_same]
    · have : (k == n) = false := by simpa using hk
      rw [upd_ne _ _ hk, this]; rfl
  · funext k
    simp only [SS.newBox, Dl.on, Dl.cuts, h1, h3, h4, h5]
    by_cases hk : k = n
    · subst hk; simp [upd_same]
    · have hne : ¬ (some n = some k) := fun h => hk (by cases h; rfl)
      rw [upd_ne _ _ hk]
      simp only [SS.put, cutT_p_eq, hk, hne, if_false, SS.cutA, cutB_p_eq]
      cases s.p k with
      | none => rfl
      | some x =>
        obtain ⟨q, h⟩ := x
        simp only [List.any_cons, List.any_nil, Bool.or_false, Bool.true_and]
        cases hb : q.boxes.contains n with
        | true => simp
        | false =>
          simp only [Bool.or_false, Bool.false_eq_true, if_false]
          cases q with
          | box b o =>
            simp only [Ptr.isBox]
            by_cases hbn : b = n
            · subst hbn; simp
            · have : (b == n) = false := by simpa using hbn
              simp only [hbn, if_false, this, Bool.or_false]
          | el p l => simp only [Ptr.isBox, Bool.or_false]
  · funext e; simp [Dl.on, h6, h7, SS.newBox, SS.put, SS.cutT, SS.cutA, SS.cutB]
  · funext e; simp [Dl.on, h7, SS.newBox, SS.put, SS.cutT, SS.cutA, SS.cutB]

theorem turn_eq {s : SS} {e : Nat} {K : List Nat} (h : e ∉ K) (x : Nat) : (upd s.L e true x && !K.contains x) = ((s.L x && !K.contains x) || [e].contains x) := by
  by_cases hx : x = e
  · subst hx
    rw [upd_same]
    simp [h]
  · rw [upd_ne _ _ hx]
    have : [e].contains x = false := by simpa using hx
    rw [this]; simp

theorem freshput_on {s : SS} {d : Option Nat} {m : M} {e : Nat} {K : List Nat} {δ : Dl} (hK : e ∉ K) (h1 : δ.n = d) (h2 : δ.m = m) (h3 : δ.pw = none) (h4 : δ.nb = false) (h5 : δ.bw = []) (h6 : δ.kill = K) (h7 : δ.fr = [e]) :
    noA ((({ s with L := upd s.L e true, U := upd s.U e true } : SS).kill K).put d m) = δ.on s := by
  subst h1; subst h2
  apply on_eq
  · simp only [SS.put, Dl.on]; cases δ.n <;> rfl
  · funext k; simp only [SS.put, Dl.on, h5]; cases δ.n <;> rfl
  · funext k
    simp only [Dl.on, Dl.cuts, h3, h4, h5]
    cases hn : δ.n with
    | none => simp [SS.put, SS.kill]; cases s.p k <;> rfl
    | some n =>
      simp only [SS.put, cutT_p_eq, SS.kill]
      by_cases hk : k = n
      · subst hk; simp
      · have : ¬ (some n = some k) := fun h => hk (by cases h; rfl)
        simp only [hk, this, if_false]
        cases s.p k with
        | none => rfl
        | some x => simp
  · funext x
    have := turn_eq (s := s) hK x
    simp only [Dl.on, h6, h7]
    cases δ.n <;> exact this
  · funext x
    simp only [Dl.on, h7]
    have : upd s.U e true x = (s.U x || [e].contains x) := by
      by_cases hx : x = e
      · subst hx; simp [upd_same]
      · rw [upd_ne _ _ hx]; simp [hx]
    cases δ.n <;> exact this

theorem cutB_on {s : SS} {b : Nat} {ms : List CM} {δ : Dl} (h1 : δ.n = none) (h5 : δ.bw = [(b, ms)]) (h6 : δ.kill = []) (h7 : δ.fr = []) : noA { s.cutB b with b := upd s.b b (some ms) } = δ.on s := by
  apply on_eq
  · simp only [Dl.on, h1]; rfl
  · funext k
    simp only [Dl.on, h5, List.lookup_cons]
    by_cases hk : k = b
    · subst hk; simp [upd_same]
    · have : (k == b) = false := by simpa using hk
      rw [upd_ne _ _ hk, this]; rfl
  · funext k
    have e := cutB_p_eq s b k
    simp only [Dl.on, Dl.cuts, h1, h5]
    refine Eq.trans e ?_
    cases s.p k with
    | none => rfl
    | some x => simp
  · funext e; simp [Dl.on, h6, h7, SS.cutB]
  · funext e; simp [Dl.on, h7, SS.cutB]

theorem stTmp_on {s : SS} {t : Nat} {m : CM} {e : Nat} {K : List Nat} {δ : Dl} (hK : e ∉ K) (h1 : δ.n = some t) (h2 : δ.m = .c m) (h3 : δ.pw = none) (h4 : δ.nb = false) (h5 : δ.bw = []) (h6 : δ.kill = K) (h7 : δ.fr = [e]) :
    noA ((({ s with L := upd s.L e true, U := upd s.U e true } : SS).kill K).setMode (.tmp t) m) = δ.on s := by
  have := freshput_on (s := s) (d := some t) hK h1 h2 h3 h4 h5 h6 h7
  exact this

theorem stBox_on {s : SS} {b j : Nat} {m : CM} {ms : List CM} (hb : s.b b = some ms) {e : Nat} {K : List Nat} {δ : Dl} (hK : e ∉ K) (h1 : δ.n = none) (h5 : δ.bw = [(b, layM ms j [m])]) (h6 : δ.kill = K) (h7 : δ.fr = [e]) :
    noA ((({ s with L := upd s.L e true, U := upd s.U e true } : SS).kill K).setMode (.box b j) m) = δ.on s := by
  have hb' : (({ s with L := upd s.L e true, U := upd s.U e true } : SS).kill K).b b = some ms := hb
  simp only [SS.setMode, hb']
  apply on_eq
  · simp only [Dl.on, h1]; rfl
  · funext k
    simp only [Dl.on, h5, List.lookup_cons]
    by_cases hk : k = b
    · subst hk; simp [upd_same]
    · have : (k == b) = false := by simpa using hk
      rw [upd_ne _ _ hk, this]; rfl
  · funext k
    have e2 := cutB_p_eq (({ s with L := upd s.L e true, U := upd s.U e true } : SS).kill K) b k
    simp only [Dl.on, Dl.cuts, h1, h5]
    refine Eq.trans e2 ?_
    show _ = match s.p k with | some (q, h) => _ | none => none
    have : (({ s with L := upd s.L e true, U := upd s.U e true } : SS).kill K).p k = s.p k := rfl
    rw [this]
    cases s.p k with
    | none => rfl
    | some x => simp
  · funext x
    have := turn_eq (s := s) hK x
    simp only [Dl.on, h6, h7]
    exact this
  · funext x
    simp only [Dl.on, h7]
    have : upd s.U e true x = (s.U x || [e].contains x) := by
      by_cases hx : x = e
      · subst hx; simp [upd_same]
      · rw [upd_ne _ _ hx]; simp [hx]
    exact this

/-! ### A call -/
theorem outW_keys (d : Nat) (sh : List Nat) {s0 : SS} {gd : Option (Nat × Bool)} : ∀ (k : Nat) (ms : List AM) (xs : List AX) (q : List Nat × List Nat), argsM s0 gd ms xs = some q → (outW d sh k ms xs).map (·.1) = xs.flatMap AX.pb
  | k, [], [], q, h => rfl
  | k, [], _ :: _, q, h => by simp [argsM] at h
  | k, _ :: _, [], q, h => by simp [argsM] at h
  | k, m :: ms, x :: xs, q, h => by
    simp only [argsM] at h
    split at h
    · cases h
    · rename_i os ss hr
      have ih := outW_keys d sh (k + 1) ms xs _ hr
      cases x with
      | v x => simp only [outW, List.flatMap_cons, AX.pb, List.nil_append]; exact ih
      | io _ _ _ => simp only [outW, List.flatMap_cons, AX.pb, List.nil_append]; exact ih
      | p a b => simp only [outW, List.map_cons, List.flatMap_cons, AX.pb, List.singleton_append, ih]

theorem outB_eq (d : Nat) (sh : List Nat) : ∀ (k : Nat) (ms : List AM) (xs : List AX) (s : SS), ((outW d sh k ms xs).map (·.1)).Nodup →
    (outB d sh k ms xs s).t = s.t ∧ (outB d sh k ms xs s).L = s.L ∧ (outB d sh k ms xs s).U = s.U ∧
    (∀ j, (outB d sh k ms xs s).b j = match (outW d sh k ms xs).lookup j with | some ms => some ms | none => s.b j) ∧
    (∀ j, (outB d sh k ms xs s).p j = match s.p j with | some (q, h) => if (outW d sh k ms xs).any (fun x => q.boxes.contains x.1) then none else some (q, h) | none => none)
  | k, [], xs, s, _ => by cases xs <;> refine ⟨rfl, rfl, rfl, fun j => rfl, fun j => ?_⟩ <;> simp only [outB, outW] <;> cases s.p j <;> rfl
  | k, m :: ms, [], s, _ => by refine ⟨rfl, rfl, rfl, fun j => rfl, fun j => ?_⟩; simp only [outB, outW]; cases s.p j <;> rfl
  | k, m :: ms, .v x :: xs, s, hn => by
    simp only [outB, outW] at hn ⊢
    exact outB_eq d sh (k + 1) ms xs s hn
  | k, m :: ms, .io x p q :: xs, s, hn => by
    simp only [outB, outW] at hn ⊢
    exact outB_eq d sh (k + 1) ms xs s hn
  | k, m :: ms, .p a b :: xs, s, hn => by
    simp only [outB, outW, List.map_cons, List.nodup_cons] at hn ⊢
    obtain ⟨h1, h2, h3, h4, h5⟩ := outB_eq d sh (k + 1) ms xs { s.cutB b with b := upd s.b b (some (backM (atom d (64 * (k + 1))) sh 0 m.outs)) } hn.2
    refine ⟨h1, h2, h3, fun j => ?_, fun j => ?_⟩
    · rw [h4 j, List.lookup_cons]
      by_cases hj : j = b
      · subst hj
        have : (outW d sh (k + 1) ms xs).lookup j = none := by
          rw [List.lookup_eq_none_iff]
          intro p hp
          have := fun he : j = p.1 => hn.1 (List.mem_map.2 ⟨p, hp, he.symm⟩)
          simpa using this
        rw [this]
        simp [upd_same]
      · have hjb : (j == b) = false := by simpa using hj
        have hu : upd s.b b (some (backM (atom d (64 * (k + 1))) sh 0 m.outs)) j = s.b j := upd_ne _ _ hj
        simp only [hjb]
        rw [← hu]
    · rw [h5 j]
      have e2 := cutB_p_eq s b j
      have e3 : ({ s.cutB b with b := upd s.b b (some (backM (atom d (64 * (k + 1))) sh 0 m.outs)) } : SS).p j = (s.cutB b).p j := rfl
      rw [e3, e2]
      cases s.p j with
      | none => rfl
      | some x =>
        obtain ⟨q, h⟩ := x
        simp only [List.any_cons]
        by_cases hc : q.boxes.contains b = true
        · simp only [hc, if_true, Bool.true_or]
        · simp only [hc, Bool.false_eq_true, if_false, Bool.false_or]

theorem callput_on {s s1 : SS} {os E : List Nat} {n : Nat} {m : M} {sh : List Nat} {ms : List AM} {xs : List AX} {δ : Dl} (hf : (s.kill os).freshs E = some s1) (hn : ((outW n sh 0 ms xs).map (·.1)).Nodup)
    (h1 : δ.n = some n) (h2 : δ.m = m) (h3 : δ.pw = none) (h4 : δ.nb = false) (h5 : δ.bw = outW n sh 0 ms xs) (h6 : δ.kill = os) (h7 : δ.fr = E) : noA ((outB n sh 0 ms xs s1).put (some n) m) = δ.on s := by
  obtain ⟨f1, f2, f3, f4, f5, f6, f7, f8⟩ := freshs_spec hf
  obtain ⟨b1, b2, b3, b4, b5⟩ := outB_eq n sh 0 ms xs s1 hn
  apply on_eq
  · simp only [SS.put, Dl.on, h1, h2]; rw [b1, f3]; rfl
  · funext k
    simp only [Dl.on, h5]
    have : ((outB n sh 0 ms xs s1).put (some n) m).b k = (outB n sh 0 ms xs s1).b k := rfl
    rw [this, b4 k, f4]; rfl
  · funext k
    simp only [Dl.on, Dl.cuts, h1, h3, h4, h5]
    have e1 : ((outB n sh 0 ms xs s1).put (some n) m).p k = ((outB n sh 0 ms xs s1).cutT n).p k := rfl
    rw [e1, cutT_p_eq, b5 k, f5]
    have e2 : (s.kill os).p = s.p := rfl
    rw [e2]
    by_cases hk : k = n
    · subst hk; simp
    · have hne : ¬ (some n = some k) := fun h => hk (by cases h; rfl)
      simp only [hk, hne, if_false]
      cases s.p k with
      | none => rfl
      | some x =>
        simp only [Bool.false_and, Bool.or_false]
        cases (outW n sh 0 ms xs).any fun y => x.1.boxes.contains y.1 <;> simp
  · funext e
    have e1 : ((outB n sh 0 ms xs s1).put (some n) m).L = (outB n sh 0 ms xs s1).L := rfl
    rw [e1, b2]
    simp only [Dl.on, h6, h7]
    rw [Bool.eq_iff_iff, f7 e]
    simp [SS.kill]
  · funext e
    have e1 : ((outB n sh 0 ms xs s1).put (some n) m).U = (outB n sh 0 ms xs s1).U := rfl
    rw [e1, b3]
    simp only [Dl.on, h7]
    rw [Bool.eq_iff_iff, f8 e]
    simp [SS.kill]
end Go.Opt
/- What an operation does to the static state, as data: every operation. -/
set_option linter.unusedVariables false
namespace Go.Opt
open Go.RowKit

section
variable {s : SS} {G : Nat → Option Sg} {ro : List Nat} {g : Option (Nat × Bool)} {d : Option Nat} {δ : Dl}

theorem fresh_eq {e : Nat} (h : s.U e = false) : s.fresh e = some { s with L := upd s.L e true, U := upd s.U e true } := by
  simp [SS.fresh, h]

theorem alive_not {m : CM} {e : Nat} (hW : ∀ e, s.L e = true → s.U e = true) (hal : alive s.L m = true) (he : s.U e = false) : e ∉ m.deps := by
  intro hm
  simp only [alive, List.all_eq_true] at hal
  have := hW e (hal e hm)
  rw [he] at this; cases this

theorem kill_nil (s : SS) : s.kill [] = s := by simp [SS.kill]

theorem put_ex {x : Option SS} {m : M} (hx : x = some (s.put d m)) (h1 : δ.n = d) (h2 : δ.m = m) (h3 : δ.pw = none) (h4 : δ.nb = false) (h5 : δ.bw = []) (h6 : δ.kill = []) (h7 : δ.fr = []) : ∃ s1, x = some s1 ∧ noA s1 = δ.on s :=
  ⟨_, hx, put_on h1 h2 h3 h4 h5 h6 h7⟩

theorem sdel_step (hW : ∀ e, s.L e = true → s.U e = true) (ha : ∀ k, s.a k = none) {o : O} (h : sdel G ro g d o s = some δ) : ∃ s1, sstep G ro g d o s = some s1 ∧ noA s1 = δ.on s := by
  cases o with
  | zap => simp only [sdel, Option.some.injEq] at h; subst h; exact put_ex rfl rfl rfl rfl rfl rfl rfl rfl
  | adr src off q =>
    simp only [sdel] at h
    simp only [sstep]
    split at h
    · cases h
    · rename_i r hh hp
      rw [Option.ite_none_right_eq_some] at h
      obtain ⟨hc, h⟩ := h
      cases h
      rw [if_pos hc]
      refine ⟨_, rfl, putP_on ?_ rfl rfl rfl rfl rfl rfl rfl⟩
      cases d with
      | none => simp [avoids] at hc
      | some _ => rfl
  | mov x =>
    simp only [sdel] at h
    simp only [sstep]
    split at h
    · cases h
    · rename_i hm
      cases h
      cases x <;> refine ⟨_, rfl, ?_⟩ <;> first | (rw [putA_on]; exact put_on rfl rfl rfl rfl rfl rfl rfl) | exact put_on rfl rfl rfl rfl rfl rfl rfl
  | iadr sz x i q =>
    simp only [sdel] at h
    simp only [sstep]
    split at h
    · rename_i n m hm
      split at h
      · rename_i hc
        cases h
        simp only [ha n, Option.getD_none, List.nil_append]
        rw [if_pos hc]
        refine ⟨_, rfl, putP_on ?_ rfl rfl rfl rfl rfl rfl rfl⟩
        cases d with
        | none => simp [avoids] at hc
        | some _ => rfl
      · cases h
    · cases h
  | pick c a b =>
    simp only [sdel] at h
    simp only [sstep]
    split at h
    · rename_i hc
      rw [if_pos hc]
      split at h
      · rename_i m n hm hn
        split at h
        · rename_i hal
          cases h
          rw [if_pos hal]
          exact put_ex rfl rfl rfl rfl rfl rfl rfl rfl
        · cases h
      · rename_i hnot
        cases h
        exact put_ex rfl rfl rfl rfl rfl rfl rfl rfl
    · cases h
  | alloc ks =>
    simp only [sdel] at h
    simp only [sstep]
    cases d with
    | none => cases h
    | some n =>
      simp only [Option.some.injEq] at h
      subst h
      exact ⟨_, rfl, newBox_on rfl rfl rfl rfl rfl rfl rfl⟩
  | box n x =>
    simp only [sdel] at h
    simp only [sstep]
    split at h
    · rename_i k ms hms
      split at h
      · rename_i hc
        cases h
        rw [if_pos hc]
        exact ⟨_, rfl, newBox_on rfl rfl rfl rfl rfl rfl rfl⟩
      · cases h
    · cases h
  | build ks parts =>
    simp only [sdel] at h
    simp only [sstep]
    obtain ⟨ms, hms, rfl⟩ := Option.map_eq_some_iff.1 h
    rw [hms]
    exact put_ex rfl rfl rfl rfl rfl rfl rfl rfl
  | bslice ks l parts =>
    simp only [sdel] at h
    simp only [sstep]
    split at h
    · rename_i n ds ok hr
      split at h
      · cases h
      · rename_i hU
        have hU : s.U (atom n 0) = false := by simpa using hU
        cases h
        simp only [fresh_eq hU]
        have := freshput_on (s := s) (d := some n) (m := .c ⟨atom n 0 :: ds, if ok then 3 else 1⟩) (e := atom n 0) (K := []) (δ := { n := some n, m := .c ⟨atom n 0 :: ds, if ok then 3 else 1⟩, fr := [atom n 0], rm := rowsDeps s parts }) (by simp) rfl rfl rfl rfl rfl rfl rfl
        rw [kill_nil] at this
        exact ⟨_, rfl, this⟩
    · cases h
  | ldB agg ks a b off =>
    simp only [sdel] at h
    simp only [sstep]
    split at h
    · rename_i hc
      rw [if_pos hc]
      split at h
      · rename_i ms hms
        split at h
        · rename_i hl
          obtain ⟨m, hm, rfl⟩ := Option.map_eq_some_iff.1 h
          rw [if_pos hl, hm]
          refine ⟨_, rfl, ?_⟩
          rw [putA_on]; exact put_on rfl rfl rfl rfl rfl rfl rfl
        · cases h
      · cases h
    · cases h
  | ldE agg ks a p q =>
    simp only [sdel] at h
    simp only [sstep]
    split at h
    · rename_i hc
      rw [if_pos hc]
      split at h
      · rename_i m0 hm0
        split at h
        · rename_i hl
          obtain ⟨m, hm, rfl⟩ := Option.map_eq_some_iff.1 h
          rw [if_pos hl, hm]
          refine ⟨_, rfl, ?_⟩
          rw [putA_on]; exact put_on rfl rfl rfl rfl rfl rfl rfl
        · cases h
      · cases h
    · cases h
  | stB n a b off x =>
    simp only [sdel] at h
    simp only [sstep]
    split at h
    · rename_i hc
      rw [if_pos hc]
      split at h
      · rename_i ms cs hms hcs
        split at h
        · rename_i hl
          cases h
          rw [if_pos hl]
          exact ⟨_, rfl, cutB_on rfl rfl rfl rfl⟩
        · cases h
      · cases h
    · cases h
  | stE n a p q x =>
    simp only [sdel] at h
    simp only [sstep]
    split at h
    · rename_i hc
      rw [if_pos hc]
      split at h
      · rename_i m cs hm hcs
        split at h
        · rename_i hl
          rw [if_pos hl]
          split at h
          · cases h
          · rename_i hU
            have hU : s.U (atom a 1) = false := by simpa using hU
            have hno := alive_not hW hl.1 hU
            simp only [fresh_eq hU]
            have st : ∀ {m' : CM} {K rm : List Nat} {rq : List (Ptr × Option (Nat × Bool))}, atom a 1 ∉ K → stD s rq p m' K (atom a 1) rm = some δ →
                noA ((({ s with L := upd s.L (atom a 1) true, U := upd s.U (atom a 1) true } : SS).kill K).setMode p m') = δ.on s := by
              intro m' K rm rq hK hd
              unfold stD at hd
              split at hd
              · cases hd; exact stTmp_on hK rfl rfl rfl rfl rfl rfl rfl
              · split at hd
                · rename_i ms hms
                  cases hd
                  exact stBox_on hms hK rfl rfl rfl rfl
                · cases hd
            split at h
            · rename_i h1; rw [if_pos h1]; exact ⟨_, rfl, st hno h⟩
            · rename_i h1
              rw [if_neg h1]
              split at h
              · rename_i h2; rw [if_pos h2]; exact ⟨_, rfl, st hno h⟩
              · rename_i h2
                rw [if_neg h2]
                split at h
                · rename_i h3
                  rw [if_pos h3]
                  split at h
                  · rename_i e r hmd
                    refine ⟨_, rfl, st ?_ h⟩
                    rw [hmd] at hno
                    simp only [List.mem_cons, not_or] at hno
                    simpa using hno.1
                  · cases h
                · cases h
        · cases h
      · cases h
    · cases h
  | aeq n ks x y =>
    simp only [sdel] at h
    simp only [sstep]
    split at h
    · cases h; exact put_ex rfl rfl rfl rfl rfl rfl rfl rfl
    · cases h
  | un op x =>
    simp only [sdel] at h
    simp only [sstep]
    split at h
    · rename_i hc; cases h; rw [if_pos hc]; exact put_ex rfl rfl rfl rfl rfl rfl rfl rfl
    · cases h
  | conv k x =>
    simp only [sdel] at h
    simp only [sstep]
    split at h
    · rename_i hc; cases h; rw [if_pos hc]; exact put_ex rfl rfl rfl rfl rfl rfl rfl rfl
    · cases h
  | b2s x =>
    simp only [sdel] at h
    simp only [sstep]
    split at h
    · rename_i hc; cases h; rw [if_pos hc]; exact put_ex rfl rfl rfl rfl rfl rfl rfl rfl
    · cases h
  | len x =>
    simp only [sdel] at h
    simp only [sstep]
    split at h
    · cases h; exact put_ex rfl rfl rfl rfl rfl rfl rfl rfl
    · cases h
  | slen x =>
    simp only [sdel] at h
    simp only [sstep]
    split at h
    · cases h; exact put_ex rfl rfl rfl rfl rfl rfl rfl rfl
    · cases h
  | apps bytes x y =>
    simp only [sdel] at h
    simp only [sstep]
    split at h
    · rename_i n m hm
      split at h
      · rename_i hc
        rw [if_pos hc]
        split at h
        · cases h
        · rename_i hU
          have hU : s.U (atom n 0) = false := by simpa using hU
          have hno := alive_not hW hc.1 hU
          simp only [fresh_eq hU]
          split at h
          · rename_i h1
            cases h
            rw [if_pos h1]
            exact ⟨_, rfl, freshput_on hno rfl rfl rfl rfl rfl rfl rfl⟩
          · rename_i h1
            rw [if_neg h1]
            split at h
            · rename_i a r hmd
              cases h
              rw [hmd] at hno
              simp only [List.mem_cons, not_or] at hno
              exact ⟨_, rfl, freshput_on (by simpa using hno.1) rfl rfl rfl rfl rfl rfl rfl⟩
            · cases h
      · cases h
    · cases h
  | field agg off n x =>
    simp only [sdel] at h
    simp only [sstep]
    split at h
    · rename_i ms hms
      split at h
      · rename_i hl
        obtain ⟨m, hm, rfl⟩ := Option.map_eq_some_iff.1 h
        rw [if_pos hl, hm]
        exact put_ex rfl rfl rfl rfl rfl rfl rfl rfl
      · cases h
    · cases h
  | bin op x y =>
    simp only [sdel] at h
    simp only [sstep]
    split at h
    · rename_i hc; cases h; rw [if_pos hc]; exact put_ex rfl rfl rfl rfl rfl rfl rfl rfl
    · cases h
  | beq n x y =>
    simp only [sdel] at h
    simp only [sstep]
    split at h
    · rename_i hc; cases h; rw [if_pos hc]; exact put_ex rfl rfl rfl rfl rfl rfl rfl rfl
    · cases h
  | sidx x y =>
    simp only [sdel] at h
    simp only [sstep]
    split at h
    · rename_i hc; cases h; rw [if_pos hc]; exact put_ex rfl rfl rfl rfl rfl rfl rfl rfl
    · cases h
  | mx x y =>
    simp only [sdel] at h
    simp only [sstep]
    split at h
    · rename_i hc; cases h; rw [if_pos hc]; exact put_ex rfl rfl rfl rfl rfl rfl rfl rfl
    · cases h
  | mn x y =>
    simp only [sdel] at h
    simp only [sstep]
    split at h
    · rename_i hc; cases h; rw [if_pos hc]; exact put_ex rfl rfl rfl rfl rfl rfl rfl rfl
    · cases h
  | extr x i =>
    simp only [sdel] at h
    simp only [sstep]
    split at h
    · rename_i l hl
      split at h
      · rename_i agg ms hli
        obtain ⟨m, hm, rfl⟩ := Option.map_eq_some_iff.1 h
        simp only [hli, hm]
        exact put_ex rfl rfl rfl rfl rfl rfl rfl rfl
      · cases h
    · cases h
  | slc sz x lo hi mx =>
    simp only [sdel] at h
    simp only [sstep]
    split at h
    · rename_i m hm
      split at h
      · rename_i hc; cases h; rw [if_pos hc]; exact put_ex rfl rfl rfl rfl rfl rfl rfl rfl
      · cases h
    · cases h
  | sslc x lo hi =>
    simp only [sdel] at h
    simp only [sstep]
    split at h
    · rename_i hc; cases h; rw [if_pos hc]; exact put_ex rfl rfl rfl rfl rfl rfl rfl rfl
    · cases h
  | mks ks bytes l =>
    simp only [sdel] at h
    simp only [sstep]
    cases d with
    | none => cases h
    | some n =>
      simp only at h ⊢
      split at h
      · rename_i hc
        rw [if_pos hc]
        split at h
        · cases h
        · rename_i hU
          have hU : s.U (atom n 0) = false := by simpa using hU
          cases h
          simp only [fresh_eq hU]
          have := freshput_on (s := s) (d := some n) (m := .c ⟨[atom n 0], 2⟩) (e := atom n 0) (K := []) (δ := { n := some n, m := .c ⟨[atom n 0], 2⟩, fr := [atom n 0] }) (by simp) rfl rfl rfl rfl rfl rfl rfl
          rw [kill_nil] at this
          exact ⟨_, rfl, this⟩
      · cases h
  | call f args =>
    simp only [sdel] at h
    simp only [sstep]
    split at h
    · rename_i n sg hG
      split at h
      · cases h
      · rename_i hok
        rw [if_neg hok]
        have hok : (callOk ro sg args && aggsOk s sg.aggs args) = true := by simpa using hok
        simp only [callOk, Bool.and_eq_true, decide_eq_true_eq] at hok
        split at h
        · rename_i os sh hq
          split at h
          · cases h
          · rename_i hov
            rw [if_neg hov]
            have hnd : ((outW n sh 0 sg.args args).map (·.1)).Nodup := by rw [outW_keys n sh 0 sg.args args _ hq]; exact hok.1.1.1.1
            split at h
            · rename_i s1 hf
              split at h
              · rename_i agg bs hres
                obtain ⟨m, hm, rfl⟩ := Option.map_eq_some_iff.1 h
                simp only [hres, hm]
                rw [hres] at hf
                exact ⟨_, rfl, callput_on hf hnd rfl rfl rfl rfl rfl rfl rfl⟩
              · rename_i hnot
                cases h
                exact ⟨_, rfl, callput_on hf hnd rfl rfl rfl rfl rfl rfl rfl⟩
            · cases h
        · cases h
    · cases h
  | app ks bytes x y =>
    simp only [sdel] at h
    simp only [sstep]
    split at h
    · rename_i n m e hm he
      split at h
      · rename_i hc
        rw [if_pos hc]
        split at h
        · cases h
        · rename_i hU
          have hU : s.U (atom n 0) = false := by simpa using hU
          have hno := alive_not hW hc.1 hU
          simp only [fresh_eq hU]
          split at h
          · rename_i h1
            cases h
            rw [if_pos h1]
            exact ⟨_, rfl, freshput_on hno rfl rfl rfl rfl rfl rfl rfl⟩
          · rename_i h1
            rw [if_neg h1]
            split at h
            · rename_i h2
              rw [if_pos h2]
              split at h
              · rename_i a r hmd
                split at h
                · cases h
                · rename_i h3
                  cases h
                  rw [if_neg h3]
                  rw [hmd] at hno
                  simp only [List.mem_cons, not_or] at hno
                  exact ⟨_, rfl, freshput_on (by simpa using hno.1) rfl rfl rfl rfl rfl rfl rfl⟩
              · cases h
            · cases h
      · cases h
    · cases h
end
end Go.Opt
