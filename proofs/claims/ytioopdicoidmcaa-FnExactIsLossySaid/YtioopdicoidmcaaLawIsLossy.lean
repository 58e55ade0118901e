/- For every input 'laws.FnExactIsLossy' returns true, and each argument reads behind the call as it read before. No conditions. -/
import Derived.Test.YtioopdicoidmcaaRows
import Derived.Test.YtioopdicoidmcaaOE
import Derived.Test.YtioopdicoidmcaaIsL2
import Derived.WalkKit
import Derived.ProofKit
set_option linter.all false
set_option maxRecDepth 100000
namespace Go.Opt
open Go.Proofs

theorem tyStrs {n : Nat} {r : List (List C)} (hl : r.length ≤ maxLen) (h : ∀ row ∈ r, Ty Try.prog n 9 row) : okStrs B63 r := by
  refine ⟨by simp only [maxLen, B63] at *; omega, fun row hr => ?_⟩
  cases n with
  | zero => exact absurd (h row hr) (by simp [Ty])
  | succ n =>
    have := h row hr
    rw [Ty.eq_def] at this
    simp only [Try.underlying9] at this
    obtain ⟨l, h1, h2⟩ := this
    exact ⟨l, h1, by simp only [maxLen, B63] at *; omega⟩

theorem okT.mono : ∀ {n m : Nat} {cs : List C}, okT B63 n cs → n ≤ m → okT B63 m cs
  | 0, _, _, h, _ => h.elim
  | n + 1, 0, _, _, h => absurd h (by omega)
  | n + 1, m + 1, _, h, hm => by
    obtain ⟨k, r1, r3, rfl, h1, h2, h3⟩ := h
    exact ⟨k, r1, r3, rfl, h1, h2, fun row hr => (h3 row hr).mono (by omega)⟩
theorem okV.mono : ∀ {n m : Nat} {cs : List C}, okV B63 n cs → n ≤ m → okV B63 m cs
  | 0, _, _, h, _ => h.elim
  | n + 1, 0, _, _, h => absurd h (by omega)
  | n + 1, m + 1, _, h, hm => by
    obtain ⟨k, a, l, r1, r3, rfl, h0, h1, h2, h3⟩ := h
    exact ⟨k, a, l, r1, r3, rfl, h0, h1, h2, fun row hr => (h3 row hr).mono (by omega)⟩

theorem cell3 : Try.prog.cellsOf 3 = 1 := by kernel_rfl
theorem cell9 : Try.prog.cellsOf 9 = 1 := by kernel_rfl
theorem cell28 : Try.prog.cellsOf 28 = 3 := by kernel_rfl
theorem cell31 : Try.prog.cellsOf 31 = 5 := by kernel_rfl

theorem tyT : ∀ (n : Nat) (cs : List C), Ty Try.prog n 28 cs → okT B63 n cs := by
  intro n
  induction n using Nat.strongRecOn with
  | _ n ih =>
    intro cs h
    rcases n with _ | _ | n
    · simp [Ty] at h
    · simp [Ty, Try.underlying28, Parts] at h
    simp only [Ty, Try.underlying28, Try.underlying3, Try.underlying25, Try.underlying26, Parts, cell9, cell28] at h
    obtain ⟨_, _, rfl, ⟨k, rfl, _⟩, _, _, rfl, ⟨r1, rfl, h1, h2⟩, _, _, rfl, ⟨r3, rfl, h3, h4⟩, rfl⟩ := h
    refine ⟨k, r1, r3, rfl, tyStrs h1 h2, by simp only [maxLen, B63] at *; omega, fun row hr => (ih n (by omega) row (h4 row hr)).mono (by omega)⟩

theorem tyV : ∀ (n : Nat) (cs : List C), Ty Try.prog n 31 cs → okV B63 n cs := by
  intro n
  induction n using Nat.strongRecOn with
  | _ n ih =>
    intro cs h
    rcases n with _ | _ | n
    · simp [Ty] at h
    · simp [Ty, Try.underlying31, Parts] at h
    simp only [Ty, Try.underlying31, Try.underlying3, Try.underlying9, Try.underlying25, Try.underlying29, Parts, cell9, cell31] at h
    obtain ⟨_, _, rfl, ⟨k, rfl, _⟩, _, _, rfl, ⟨m, rfl, _⟩, _, _, rfl, ⟨l, rfl, h0⟩, _, _, rfl, ⟨r1, rfl, h1, h2⟩, _, _, rfl, ⟨r3, rfl, h3, h4⟩, rfl⟩ := h
    refine ⟨k, m, l, r1, r3, rfl, by simp only [maxLen, B63] at *; omega, tyStrs h1 h2, by simp only [maxLen, B63] at *; omega, fun row hr => (ih n (by omega) row (h4 row hr)).mono (by omega)⟩

theorem tyM (n : Nat) (cs : List C) (h : Ty Try.prog n 33 cs) : okM B63 n cs := by
  rcases n with _ | _ | n
  · simp [Ty] at h
  · simp [Ty, Try.underlying33, Parts] at h
  simp only [Ty.eq_def _ (n + 2), Ty.eq_def _ (n + 1) 3, Ty.eq_def _ (n + 1) 9, Try.underlying33, Try.underlying3, Try.underlying9, Parts] at h
  obtain ⟨_, _, rfl, ⟨k, rfl, _⟩, _, _, rfl, ⟨l, rfl, hl⟩, _, _, rfl, ⟨m, rfl, hm⟩, t, _, rfl, ht, v, _, rfl, hv, rfl⟩ := h
  have ht := (tyT _ _ ht).mono (show n + 1 ≤ n + 2 by omega)
  have hv := (tyV _ _ hv).mono (show n + 1 ≤ n + 2 by omega)
  obtain ⟨a, b, c, rfl⟩ := ht.form
  obtain ⟨a', b', c', d', e', rfl⟩ := hv.form
  exact ⟨k, l, m, _, _, _, _, _, _, _, _, rfl, by simp only [maxLen, B63] at *; omega, by simp only [maxLen, B63] at *; omega, ht, hv⟩

theorem own : ownKnob Try.prog.godebug = none := by kernel_rfl

theorem data (xs : List Arg) (h : ArgTys Try.prog Try.f4.params.toList xs) : Cal D 1 xs = some ⟨.c (.bool true), []⟩ := by
  rw [Try.params4] at h
  rcases xs with _ | ⟨a, _ | ⟨b, xs⟩⟩
  · exact h.elim
  · obtain ⟨⟨n, h1, h2⟩, _⟩ := h
    cases a with
    | agg cs => exact law1 n cs (tyM n cs h1)
    | c x => exact absurd h2 (by show ¬ isAggT Try.prog 33 = false; rw [show isAggT Try.prog 33 = true by kernel_rfl]; decide)
    | ptr _ => exact h2.elim
  · exact h.2.elim

theorem lifted (os : Os) (started : os.Started) (H : Type) (enc : TypeId × Value → H) :
    ReturnsInHanded {} Try.checked os 4 .any (Ytioopdicoidmcaa.Rows.fnExactIsLossySpec.pre6 enc Try.prog Try.f4 Ytioopdicoidmcaa.Rows.fnExactIsLossyRow.domain false) (Ytioopdicoidmcaa.Rows.fnExactIsLossySpec.post enc Try.prog Try.f4 false true false false) :=
  law_lifted (C := Try.checked) own started ground (by kernel_rfl) Try.func4 (by kernel_rfl) (by kernel_rfl) data rfl
    (fun ds h => by
      have hz : Try.f4.params.size = 1 := by kernel_rfl
      rw [hz] at h
      rcases ds with _ | ⟨d, _ | ⟨e, ds⟩⟩
      · cases h
      · rfl
      · simp at h)
    (ChangeSpec.witness6 (enc := enc) (C := Try.checked) false ⟨#[], (Try.f4.params.toList.map (zeroOf Try.prog)).toArray, []⟩ 8 (by kernel_rfl) (by kernel_rfl) (by kernel_rfl) (by kernel_rfl))
end Go.Opt
namespace Go.Proofs.Ytioopdicoidmcaa
theorem fnExactIsLossy_holds : Rows.FnExactIsLossySaid :=
  OpenClaim.holds_of_wide 4 Try.f4 rfl rfl rfl rfl rfl rfl rfl ⟨rfl, rfl, rfl, rfl, rfl⟩ rfl rfl rfl rfl rfl (by kernel_rfl) Try.func4 (by kernel_rfl)
    (of_decide_eq_true (by kernel_rfl)) (by unfold Func.isWrapper; first | (rw [if_pos (by decide +kernel)]; kernel_rfl) | (rw [if_neg (by decide +kernel)]; exact ⟨rfl, rfl⟩))
    (fun os started H enc _ => Go.Opt.lifted os started H enc)
#print axioms fnExactIsLossy_holds
end Go.Proofs.Ytioopdicoidmcaa
