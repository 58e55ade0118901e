-- PRINTED BY print.sh 35421559b90ae4d0a3588c463048766b98c2df88dd9212a6774a882060cdf62d: not written by this session
import Derived.Test.YtioopdicoidmcaaPFnExactExampleTextsx0
namespace Go.Proofs.Ytioopdicoidmcaa.PFnExactExampleTexts
open Go.RowKit Go.Proofs.YtioopdicoidmcaaW.PrintWords Go.Proofs.YtioopdicoidmcaaW.PrintLast Go.Proofs.YtioopdicoidmcaaW.PrintMore
attribute [local go_sem] max2_int min2_int max_two min_two max_three min_three max_four min_four   -- for this text's walks alone
set_option linter.unusedVariables false
set_option linter.unusedSimpArgs false

/-! ### spec_ExampleTexts: function 9 -/
def spec_ExampleTexts.f (a0 : Int) : Option (ByteArray × ByteArray × ByteArray) := if a0 = 1 then (some ((⟨#[123, 97, 58, 73, 44, 98, 58, 91, 60, 112, 58, 73, 44, 113, 58, 66, 62, 93, 125]⟩ : ByteArray), (⟨#[123, 97, 61, 49, 44, 98, 61, 91, 60, 112, 32, 53, 62, 44, 60, 113, 32, 35, 116, 62, 44, 60, 112, 32, 55, 62, 93, 125]⟩ : ByteArray), (⟨#[40, 46, 98, 59, 40, 101, 97, 99, 104, 59, 63, 112, 41, 41]⟩ : ByteArray))) else (if a0 = 2 then (some ((⟨#[91, 123, 107, 58, 73, 44, 118, 58, 66, 125, 93]⟩ : ByteArray), (⟨#[91, 123, 107, 61, 49, 44, 118, 61, 35, 116, 125, 44, 123, 107, 61, 50, 44, 118, 61, 35, 102, 125, 93]⟩ : ByteArray), (⟨#[40, 114, 101, 118, 59, 40, 97, 116, 32, 48, 59, 46, 118, 41, 41]⟩ : ByteArray))) else (if a0 = 3 then (some ((⟨#[123, 97, 58, 73, 44, 98, 58, 73, 125]⟩ : ByteArray), (⟨#[123, 97, 61, 49, 44, 98, 61, 50, 125]⟩ : ByteArray), (⟨#[40, 97, 108, 108, 59, 97, 100, 100, 32, 49, 48, 41]⟩ : ByteArray))) else (if a0 = 4 then (some ((⟨#[60, 112, 58, 123, 97, 58, 73, 44, 98, 58, 73, 125, 44, 113, 58, 73, 62]⟩ : ByteArray), (⟨#[60, 113, 32, 57, 62]⟩ : ByteArray), (⟨#[40, 40, 63, 112, 59, 46, 98, 41, 124, 63, 113, 41]⟩ : ByteArray))) else (if a0 = 5 then (some ((⟨#[91, 91, 73, 93, 93]⟩ : ByteArray), (⟨#[91, 91, 49, 44, 50, 93, 44, 91, 51, 93, 93]⟩ : ByteArray), (⟨#[40, 109, 97, 112, 32, 114, 101, 118, 59, 40, 101, 97, 99, 104, 59, 101, 97, 99, 104, 41, 41]⟩ : ByteArray))) else (if a0 = 6 then (some ((⟨#[66]⟩ : ByteArray), (⟨#[35, 116]⟩ : ByteArray), (⟨#[40, 110, 111, 116, 59, 40, 119, 114, 97, 112, 32, 119, 59, 46, 119, 41, 41]⟩ : ByteArray))) else (some ((⟨#[]⟩ : ByteArray), (⟨#[]⟩ : ByteArray), (⟨#[]⟩ : ByteArray))))))))
set_option maxHeartbeats 8000000 in
set_option maxRecDepth 100000 in
theorem spec_ExampleTexts.calls (a0 : Int) (r1 : ByteArray) (r2 : ByteArray) (r3 : ByteArray) (w : World) (h : spec_ExampleTexts.f a0 = some (r1, r2, r3)) :
    Calls Try.prog 9 #[.int .i64 a0] w fun e w' => e = .returned (.tuple #[.string r1, .string r2, .string r3]) ∧ Drawn0 w w' := by
  have H : (if a0 = 1 then (some ((⟨#[123, 97, 58, 73, 44, 98, 58, 91, 60, 112, 58, 73, 44, 113, 58, 66, 62, 93, 125]⟩ : ByteArray), (⟨#[123, 97, 61, 49, 44, 98, 61, 91, 60, 112, 32, 53, 62, 44, 60, 113, 32, 35, 116, 62, 44, 60, 112, 32, 55, 62, 93, 125]⟩ : ByteArray), (⟨#[40, 46, 98, 59, 40, 101, 97, 99, 104, 59, 63, 112, 41, 41]⟩ : ByteArray))) else (if a0 = 2 then (some ((⟨#[91, 123, 107, 58, 73, 44, 118, 58, 66, 125, 93]⟩ : ByteArray), (⟨#[91, 123, 107, 61, 49, 44, 118, 61, 35, 116, 125, 44, 123, 107, 61, 50, 44, 118, 61, 35, 102, 125, 93]⟩ : ByteArray), (⟨#[40, 114, 101, 118, 59, 40, 97, 116, 32, 48, 59, 46, 118, 41, 41]⟩ : ByteArray))) else (if a0 = 3 then (some ((⟨#[123, 97, 58, 73, 44, 98, 58, 73, 125]⟩ : ByteArray), (⟨#[123, 97, 61, 49, 44, 98, 61, 50, 125]⟩ : ByteArray), (⟨#[40, 97, 108, 108, 59, 97, 100, 100, 32, 49, 48, 41]⟩ : ByteArray))) else (if a0 = 4 then (some ((⟨#[60, 112, 58, 123, 97, 58, 73, 44, 98, 58, 73, 125, 44, 113, 58, 73, 62]⟩ : ByteArray), (⟨#[60, 113, 32, 57, 62]⟩ : ByteArray), (⟨#[40, 40, 63, 112, 59, 46, 98, 41, 124, 63, 113, 41]⟩ : ByteArray))) else (if a0 = 5 then (some ((⟨#[91, 91, 73, 93, 93]⟩ : ByteArray), (⟨#[91, 91, 49, 44, 50, 93, 44, 91, 51, 93, 93]⟩ : ByteArray), (⟨#[40, 109, 97, 112, 32, 114, 101, 118, 59, 40, 101, 97, 99, 104, 59, 101, 97, 99, 104, 41, 41]⟩ : ByteArray))) else (if a0 = 6 then (some ((⟨#[66]⟩ : ByteArray), (⟨#[35, 116]⟩ : ByteArray), (⟨#[40, 110, 111, 116, 59, 40, 119, 114, 97, 112, 32, 119, 59, 46, 119, 41, 41]⟩ : ByteArray))) else (some ((⟨#[]⟩ : ByteArray), (⟨#[]⟩ : ByteArray), (⟨#[]⟩ : ByteArray))))))))) = some (r1, r2, r3) := h
  clear h
  by_cases c2 : a0 = 1
  · rw [if_pos c2] at H
    have c2b0 : (a0 == 1) = true := beq_iff_eq.mpr c2
    have c2b1 : (a0 != 1) = false := bne_eq_false_iff_eq.mpr c2
    clear c2
    simp only [Option.some.injEq, Prod.mk.injEq] at H
    obtain ⟨rfl, rfl, rfl⟩ := H
    go_enter Try.func9, Try.ntmps9
    go_wp2
    go_ret3
    exact ⟨by first | rfl | (simp; done) | (simp [*]; done), by repeat (first | exact Drawn0.refl _ | apply Drawn0.step)⟩
  · rw [if_neg c2] at H
    have c2b0 : (a0 == 1) = false := beq_eq_false_iff_ne.mpr c2
    have c2b1 : (a0 != 1) = true := bne_iff_ne.mpr c2
    by_cases c3 : a0 = 2
    · rw [if_pos c3] at H
      have c3b0 : (a0 == 2) = true := beq_iff_eq.mpr c3
      have c3b1 : (a0 != 2) = false := bne_eq_false_iff_eq.mpr c3
      clear c3
      simp only [Option.some.injEq, Prod.mk.injEq] at H
      obtain ⟨rfl, rfl, rfl⟩ := H
      go_enter Try.func9, Try.ntmps9
      go_wp2
      go_ret3
      exact ⟨by first | rfl | (simp; done) | (simp [*]; done), by repeat (first | exact Drawn0.refl _ | apply Drawn0.step)⟩
    · rw [if_neg c3] at H
      have c3b0 : (a0 == 2) = false := beq_eq_false_iff_ne.mpr c3
      have c3b1 : (a0 != 2) = true := bne_iff_ne.mpr c3
      by_cases c4 : a0 = 3
      · rw [if_pos c4] at H
        have c4b0 : (a0 == 3) = true := beq_iff_eq.mpr c4
        have c4b1 : (a0 != 3) = false := bne_eq_false_iff_eq.mpr c4
        clear c4
        simp only [Option.some.injEq, Prod.mk.injEq] at H
        obtain ⟨rfl, rfl, rfl⟩ := H
        go_enter Try.func9, Try.ntmps9
        go_wp2
        go_ret3
        exact ⟨by first | rfl | (simp; done) | (simp [*]; done), by repeat (first | exact Drawn0.refl _ | apply Drawn0.step)⟩
      · rw [if_neg c4] at H
        have c4b0 : (a0 == 3) = false := beq_eq_false_iff_ne.mpr c4
        have c4b1 : (a0 != 3) = true := bne_iff_ne.mpr c4
        by_cases c5 : a0 = 4
        · rw [if_pos c5] at H
          have c5b0 : (a0 == 4) = true := beq_iff_eq.mpr c5
          have c5b1 : (a0 != 4) = false := bne_eq_false_iff_eq.mpr c5
          clear c5
          simp only [Option.some.injEq, Prod.mk.injEq] at H
          obtain ⟨rfl, rfl, rfl⟩ := H
          go_enter Try.func9, Try.ntmps9
          go_wp2
          go_ret3
          exact ⟨by first | rfl | (simp; done) | (simp [*]; done), by repeat (first | exact Drawn0.refl _ | apply Drawn0.step)⟩
        · rw [if_neg c5] at H
          have c5b0 : (a0 == 4) = false := beq_eq_false_iff_ne.mpr c5
          have c5b1 : (a0 != 4) = true := bne_iff_ne.mpr c5
          by_cases c6 : a0 = 5
          · rw [if_pos c6] at H
            have c6b0 : (a0 == 5) = true := beq_iff_eq.mpr c6
            have c6b1 : (a0 != 5) = false := bne_eq_false_iff_eq.mpr c6
            clear c6
            simp only [Option.some.injEq, Prod.mk.injEq] at H
            obtain ⟨rfl, rfl, rfl⟩ := H
            go_enter Try.func9, Try.ntmps9
            go_wp2
            go_ret3
            exact ⟨by first | rfl | (simp; done) | (simp [*]; done), by repeat (first | exact Drawn0.refl _ | apply Drawn0.step)⟩
          · rw [if_neg c6] at H
            have c6b0 : (a0 == 5) = false := beq_eq_false_iff_ne.mpr c6
            have c6b1 : (a0 != 5) = true := bne_iff_ne.mpr c6
            by_cases c7 : a0 = 6
            · rw [if_pos c7] at H
              have c7b0 : (a0 == 6) = true := beq_iff_eq.mpr c7
              have c7b1 : (a0 != 6) = false := bne_eq_false_iff_eq.mpr c7
              clear c7
              simp only [Option.some.injEq, Prod.mk.injEq] at H
              obtain ⟨rfl, rfl, rfl⟩ := H
              go_enter Try.func9, Try.ntmps9
              go_wp2
              go_ret3
              exact ⟨by first | rfl | (simp; done) | (simp [*]; done), by repeat (first | exact Drawn0.refl _ | apply Drawn0.step)⟩
            · rw [if_neg c7] at H
              have c7b0 : (a0 == 6) = false := beq_eq_false_iff_ne.mpr c7
              have c7b1 : (a0 != 6) = true := bne_iff_ne.mpr c7
              simp only [Option.some.injEq, Prod.mk.injEq] at H
              obtain ⟨rfl, rfl, rfl⟩ := H
              go_enter Try.func9, Try.ntmps9
              go_wp2
              go_ret3
              exact ⟨by first | rfl | (simp; done) | (simp [*]; done), by repeat (first | exact Drawn0.refl _ | apply Drawn0.step)⟩

/-! ### impl_ExampleTexts: function 10 -/
def impl_ExampleTexts.f (a0 : Int) : Option (ByteArray × ByteArray × ByteArray) := if a0 = 1 then (some ((⟨#[123, 97, 58, 73, 44, 98, 58, 91, 60, 112, 58, 73, 44, 113, 58, 66, 62, 93, 125]⟩ : ByteArray), (⟨#[123, 97, 61, 49, 44, 98, 61, 91, 60, 112, 32, 53, 62, 44, 60, 113, 32, 35, 116, 62, 44, 60, 112, 32, 55, 62, 93, 125]⟩ : ByteArray), (⟨#[40, 46, 98, 59, 40, 101, 97, 99, 104, 59, 63, 112, 41, 41]⟩ : ByteArray))) else (if a0 = 2 then (some ((⟨#[91, 123, 107, 58, 73, 44, 118, 58, 66, 125, 93]⟩ : ByteArray), (⟨#[91, 123, 107, 61, 49, 44, 118, 61, 35, 116, 125, 44, 123, 107, 61, 50, 44, 118, 61, 35, 102, 125, 93]⟩ : ByteArray), (⟨#[40, 114, 101, 118, 59, 40, 97, 116, 32, 48, 59, 46, 118, 41, 41]⟩ : ByteArray))) else (if a0 = 3 then (some ((⟨#[123, 97, 58, 73, 44, 98, 58, 73, 125]⟩ : ByteArray), (⟨#[123, 97, 61, 49, 44, 98, 61, 50, 125]⟩ : ByteArray), (⟨#[40, 97, 108, 108, 59, 97, 100, 100, 32, 49, 48, 41]⟩ : ByteArray))) else (if a0 = 4 then (some ((⟨#[60, 112, 58, 123, 97, 58, 73, 44, 98, 58, 73, 125, 44, 113, 58, 73, 62]⟩ : ByteArray), (⟨#[60, 113, 32, 57, 62]⟩ : ByteArray), (⟨#[40, 40, 63, 112, 59, 46, 98, 41, 124, 63, 113, 41]⟩ : ByteArray))) else (if a0 = 5 then (some ((⟨#[91, 91, 73, 93, 93]⟩ : ByteArray), (⟨#[91, 91, 49, 44, 50, 93, 44, 91, 51, 93, 93]⟩ : ByteArray), (⟨#[40, 109, 97, 112, 32, 114, 101, 118, 59, 40, 101, 97, 99, 104, 59, 101, 97, 99, 104, 41, 41]⟩ : ByteArray))) else (if a0 = 6 then (some ((⟨#[66]⟩ : ByteArray), (⟨#[35, 116]⟩ : ByteArray), (⟨#[40, 110, 111, 116, 59, 40, 119, 114, 97, 112, 32, 119, 59, 46, 119, 41, 41]⟩ : ByteArray))) else (some ((⟨#[]⟩ : ByteArray), (⟨#[]⟩ : ByteArray), (⟨#[]⟩ : ByteArray))))))))
set_option maxHeartbeats 8000000 in
set_option maxRecDepth 100000 in
theorem impl_ExampleTexts.calls (a0 : Int) (r1 : ByteArray) (r2 : ByteArray) (r3 : ByteArray) (w : World) (h : impl_ExampleTexts.f a0 = some (r1, r2, r3)) :
    Calls Try.prog 10 #[.int .i64 a0] w fun e w' => e = .returned (.tuple #[.string r1, .string r2, .string r3]) ∧ Drawn0 w w' := by
  have H : (if a0 = 1 then (some ((⟨#[123, 97, 58, 73, 44, 98, 58, 91, 60, 112, 58, 73, 44, 113, 58, 66, 62, 93, 125]⟩ : ByteArray), (⟨#[123, 97, 61, 49, 44, 98, 61, 91, 60, 112, 32, 53, 62, 44, 60, 113, 32, 35, 116, 62, 44, 60, 112, 32, 55, 62, 93, 125]⟩ : ByteArray), (⟨#[40, 46, 98, 59, 40, 101, 97, 99, 104, 59, 63, 112, 41, 41]⟩ : ByteArray))) else (if a0 = 2 then (some ((⟨#[91, 123, 107, 58, 73, 44, 118, 58, 66, 125, 93]⟩ : ByteArray), (⟨#[91, 123, 107, 61, 49, 44, 118, 61, 35, 116, 125, 44, 123, 107, 61, 50, 44, 118, 61, 35, 102, 125, 93]⟩ : ByteArray), (⟨#[40, 114, 101, 118, 59, 40, 97, 116, 32, 48, 59, 46, 118, 41, 41]⟩ : ByteArray))) else (if a0 = 3 then (some ((⟨#[123, 97, 58, 73, 44, 98, 58, 73, 125]⟩ : ByteArray), (⟨#[123, 97, 61, 49, 44, 98, 61, 50, 125]⟩ : ByteArray), (⟨#[40, 97, 108, 108, 59, 97, 100, 100, 32, 49, 48, 41]⟩ : ByteArray))) else (if a0 = 4 then (some ((⟨#[60, 112, 58, 123, 97, 58, 73, 44, 98, 58, 73, 125, 44, 113, 58, 73, 62]⟩ : ByteArray), (⟨#[60, 113, 32, 57, 62]⟩ : ByteArray), (⟨#[40, 40, 63, 112, 59, 46, 98, 41, 124, 63, 113, 41]⟩ : ByteArray))) else (if a0 = 5 then (some ((⟨#[91, 91, 73, 93, 93]⟩ : ByteArray), (⟨#[91, 91, 49, 44, 50, 93, 44, 91, 51, 93, 93]⟩ : ByteArray), (⟨#[40, 109, 97, 112, 32, 114, 101, 118, 59, 40, 101, 97, 99, 104, 59, 101, 97, 99, 104, 41, 41]⟩ : ByteArray))) else (if a0 = 6 then (some ((⟨#[66]⟩ : ByteArray), (⟨#[35, 116]⟩ : ByteArray), (⟨#[40, 110, 111, 116, 59, 40, 119, 114, 97, 112, 32, 119, 59, 46, 119, 41, 41]⟩ : ByteArray))) else (some ((⟨#[]⟩ : ByteArray), (⟨#[]⟩ : ByteArray), (⟨#[]⟩ : ByteArray))))))))) = some (r1, r2, r3) := h
  clear h
  by_cases c2 : a0 = 1
  · rw [if_pos c2] at H
    have c2b0 : (a0 == 1) = true := beq_iff_eq.mpr c2
    have c2b1 : (a0 != 1) = false := bne_eq_false_iff_eq.mpr c2
    clear c2
    simp only [Option.some.injEq, Prod.mk.injEq] at H
    obtain ⟨rfl, rfl, rfl⟩ := H
    go_enter Try.func10, Try.ntmps10
    go_wp2
    go_ret3
    exact ⟨by first | rfl | (simp; done) | (simp [*]; done), by repeat (first | exact Drawn0.refl _ | apply Drawn0.step)⟩
  · rw [if_neg c2] at H
    have c2b0 : (a0 == 1) = false := beq_eq_false_iff_ne.mpr c2
    have c2b1 : (a0 != 1) = true := bne_iff_ne.mpr c2
    by_cases c3 : a0 = 2
    · rw [if_pos c3] at H
      have c3b0 : (a0 == 2) = true := beq_iff_eq.mpr c3
      have c3b1 : (a0 != 2) = false := bne_eq_false_iff_eq.mpr c3
      clear c3
      simp only [Option.some.injEq, Prod.mk.injEq] at H
      obtain ⟨rfl, rfl, rfl⟩ := H
      go_enter Try.func10, Try.ntmps10
      go_wp2
      go_ret3
      exact ⟨by first | rfl | (simp; done) | (simp [*]; done), by repeat (first | exact Drawn0.refl _ | apply Drawn0.step)⟩
    · rw [if_neg c3] at H
      have c3b0 : (a0 == 2) = false := beq_eq_false_iff_ne.mpr c3
      have c3b1 : (a0 != 2) = true := bne_iff_ne.mpr c3
      by_cases c4 : a0 = 3
      · rw [if_pos c4] at H
        have c4b0 : (a0 == 3) = true := beq_iff_eq.mpr c4
        have c4b1 : (a0 != 3) = false := bne_eq_false_iff_eq.mpr c4
        clear c4
        simp only [Option.some.injEq, Prod.mk.injEq] at H
        obtain ⟨rfl, rfl, rfl⟩ := H
        go_enter Try.func10, Try.ntmps10
        go_wp2
        go_ret3
        exact ⟨by first | rfl | (simp; done) | (simp [*]; done), by repeat (first | exact Drawn0.refl _ | apply Drawn0.step)⟩
      · rw [if_neg c4] at H
        have c4b0 : (a0 == 3) = false := beq_eq_false_iff_ne.mpr c4
        have c4b1 : (a0 != 3) = true := bne_iff_ne.mpr c4
        by_cases c5 : a0 = 4
        · rw [if_pos c5] at H
          have c5b0 : (a0 == 4) = true := beq_iff_eq.mpr c5
          have c5b1 : (a0 != 4) = false := bne_eq_false_iff_eq.mpr c5
          clear c5
          simp only [Option.some.injEq, Prod.mk.injEq] at H
          obtain ⟨rfl, rfl, rfl⟩ := H
          go_enter Try.func10, Try.ntmps10
          go_wp2
          go_ret3
          exact ⟨by first | rfl | (simp; done) | (simp [*]; done), by repeat (first | exact Drawn0.refl _ | apply Drawn0.step)⟩
        · rw [if_neg c5] at H
          have c5b0 : (a0 == 4) = false := beq_eq_false_iff_ne.mpr c5
          have c5b1 : (a0 != 4) = true := bne_iff_ne.mpr c5
          by_cases c6 : a0 = 5
          · rw [if_pos c6] at H
            have c6b0 : (a0 == 5) = true := beq_iff_eq.mpr c6
            have c6b1 : (a0 != 5) = false := bne_eq_false_iff_eq.mpr c6
            clear c6
            simp only [Option.some.injEq, Prod.mk.injEq] at H
            obtain ⟨rfl, rfl, rfl⟩ := H
            go_enter Try.func10, Try.ntmps10
            go_wp2
            go_ret3
            exact ⟨by first | rfl | (simp; done) | (simp [*]; done), by repeat (first | exact Drawn0.refl _ | apply Drawn0.step)⟩
          · rw [if_neg c6] at H
            have c6b0 : (a0 == 5) = false := beq_eq_false_iff_ne.mpr c6
            have c6b1 : (a0 != 5) = true := bne_iff_ne.mpr c6
            by_cases c7 : a0 = 6
            · rw [if_pos c7] at H
              have c7b0 : (a0 == 6) = true := beq_iff_eq.mpr c7
              have c7b1 : (a0 != 6) = false := bne_eq_false_iff_eq.mpr c7
              clear c7
              simp only [Option.some.injEq, Prod.mk.injEq] at H
              obtain ⟨rfl, rfl, rfl⟩ := H
              go_enter Try.func10, Try.ntmps10
              go_wp2
              go_ret3
              exact ⟨by first | rfl | (simp; done) | (simp [*]; done), by repeat (first | exact Drawn0.refl _ | apply Drawn0.step)⟩
            · rw [if_neg c7] at H
              have c7b0 : (a0 == 6) = false := beq_eq_false_iff_ne.mpr c7
              have c7b1 : (a0 != 6) = true := bne_iff_ne.mpr c7
              simp only [Option.some.injEq, Prod.mk.injEq] at H
              obtain ⟨rfl, rfl, rfl⟩ := H
              go_enter Try.func10, Try.ntmps10
              go_wp2
              go_ret3
              exact ⟨by first | rfl | (simp; done) | (simp [*]; done), by repeat (first | exact Drawn0.refl _ | apply Drawn0.step)⟩

/-! ### laws_FnExactExampleTexts: function 3 -/
def laws_FnExactExampleTexts.f (a0 : Int) : Option (Bool) := (spec_ExampleTexts.f a0).bind fun bt101 => ((impl_ExampleTexts.f a0).bind fun bt104 => (if bt104.1.toList = bt101.1.toList then (if bt104.2.1.toList = bt101.2.1.toList then (if bt104.2.2.toList = bt101.2.2.toList then (some true) else (some false)) else (some false)) else (some false)))
set_option maxHeartbeats 8000000 in
set_option maxRecDepth 100000 in
theorem laws_FnExactExampleTexts.calls (a0 : Int) (r : Bool) (w : World) (h : laws_FnExactExampleTexts.f a0 = some r) :
    Calls Try.prog 3 #[.int .i64 a0] w fun e w' => e = .returned (.bool r) ∧ Drawn0 w w' := by
  have H : ((spec_ExampleTexts.f a0).bind fun bt101 => ((impl_ExampleTexts.f a0).bind fun bt104 => (if bt104.1.toList = bt101.1.toList then (if bt104.2.1.toList = bt101.2.1.toList then (if bt104.2.2.toList = bt101.2.2.toList then (some true) else (some false)) else (some false)) else (some false)))) = some r := h
  clear h
  replace H := Option.bind_eq_some_iff.mp H
  obtain ⟨⟨t101, t102, t103⟩, A20, H⟩ := H
  replace H : ((impl_ExampleTexts.f a0).bind fun bt104 => (if bt104.1.toList = t101.toList then (if bt104.2.1.toList = t102.toList then (if bt104.2.2.toList = t103.toList then (some true) else (some false)) else (some false)) else (some false))) = some r := H
  have A2 := Aside0.mk A20
  clear A20
  replace H := Option.bind_eq_some_iff.mp H
  obtain ⟨⟨t104, t105, t106⟩, A30, H⟩ := H
  replace H : (if t104.toList = t101.toList then (if t105.toList = t102.toList then (if t106.toList = t103.toList then (some true) else (some false)) else (some false)) else (some false)) = some r := H
  have A3 := Aside0.mk A30
  clear A30
  by_cases c4 : t104.toList = t101.toList
  · rw [if_pos c4] at H
    have c4b0 : (t104.toList == t101.toList) = true := beq_iff_eq.mpr c4
    have c4b1 : (t104.toList != t101.toList) = false := bne_eq_false_iff_eq.mpr c4
    clear c4
    by_cases c5 : t105.toList = t102.toList
    · rw [if_pos c5] at H
      have c5b0 : (t105.toList == t102.toList) = true := beq_iff_eq.mpr c5
      have c5b1 : (t105.toList != t102.toList) = false := bne_eq_false_iff_eq.mpr c5
      clear c5
      by_cases c6 : t106.toList = t103.toList
      · rw [if_pos c6] at H
        have c6b0 : (t106.toList == t103.toList) = true := beq_iff_eq.mpr c6
        have c6b1 : (t106.toList != t103.toList) = false := bne_eq_false_iff_eq.mpr c6
        clear c6
        obtain rfl := Option.some.inj H
        go_enter Try.func3, Try.ntmps3
        go_wp2_with (first | ((with_reducible refine gate_callee (f := 9) rfl ?_); refine goesL_ (some 11) rfl rfl Try.func9 (by kernel_rfl) rfl #[.int .i64 a0] rfl (by (try simp only [List.map_toArray, List.map_cons, List.map_nil]); first | done | rfl | (simp only [List.length_drop, List.length_take]; rfl)) ?_; (with_reducible refine (spec_ExampleTexts.calls a0 t101 t102 t103 _ A2.out).mono ?_); rintro e w' ⟨rfl, ⟨nd, rfl⟩⟩; refine ⟨_, rfl, ?_⟩) | ((with_reducible refine gate_callee (f := 10) rfl ?_); refine goesL_ (some 17) rfl rfl Try.func10 (by kernel_rfl) rfl #[.int .i64 a0] rfl (by (try simp only [List.map_toArray, List.map_cons, List.map_nil]); first | done | rfl | (simp only [List.length_drop, List.length_take]; rfl)) ?_; (with_reducible refine (impl_ExampleTexts.calls a0 t104 t105 t106 _ A3.out).mono ?_); rintro e w' ⟨rfl, ⟨nd, rfl⟩⟩; refine ⟨_, rfl, ?_⟩))
        go_ret
        exact ⟨by first | rfl | (simp; done) | (simp [*]; done), by repeat (first | exact Drawn0.refl _ | apply Drawn0.step)⟩
      · rw [if_neg c6] at H
        have c6b0 : (t106.toList == t103.toList) = false := beq_eq_false_iff_ne.mpr c6
        have c6b1 : (t106.toList != t103.toList) = true := bne_iff_ne.mpr c6
        obtain rfl := Option.some.inj H
        go_enter Try.func3, Try.ntmps3
        go_wp2_with (first | ((with_reducible refine gate_callee (f := 9) rfl ?_); refine goesL_ (some 11) rfl rfl Try.func9 (by kernel_rfl) rfl #[.int .i64 a0] rfl (by (try simp only [List.map_toArray, List.map_cons, List.map_nil]); first | done | rfl | (simp only [List.length_drop, List.length_take]; rfl)) ?_; (with_reducible refine (spec_ExampleTexts.calls a0 t101 t102 t103 _ A2.out).mono ?_); rintro e w' ⟨rfl, ⟨nd, rfl⟩⟩; refine ⟨_, rfl, ?_⟩) | ((with_reducible refine gate_callee (f := 10) rfl ?_); refine goesL_ (some 17) rfl rfl Try.func10 (by kernel_rfl) rfl #[.int .i64 a0] rfl (by (try simp only [List.map_toArray, List.map_cons, List.map_nil]); first | done | rfl | (simp only [List.length_drop, List.length_take]; rfl)) ?_; (with_reducible refine (impl_ExampleTexts.calls a0 t104 t105 t106 _ A3.out).mono ?_); rintro e w' ⟨rfl, ⟨nd, rfl⟩⟩; refine ⟨_, rfl, ?_⟩))
        go_ret
        exact ⟨by first | rfl | (simp; done) | (simp [*]; done), by repeat (first | exact Drawn0.refl _ | apply Drawn0.step)⟩
    · rw [if_neg c5] at H
      have c5b0 : (t105.toList == t102.toList) = false := beq_eq_false_iff_ne.mpr c5
      have c5b1 : (t105.toList != t102.toList) = true := bne_iff_ne.mpr c5
      obtain rfl := Option.some.inj H
      go_enter Try.func3, Try.ntmps3
      go_wp2_with (first | ((with_reducible refine gate_callee (f := 9) rfl ?_); refine goesL_ (some 11) rfl rfl Try.func9 (by kernel_rfl) rfl #[.int .i64 a0] rfl (by (try simp only [List.map_toArray, List.map_cons, List.map_nil]); first | done | rfl | (simp only [List.length_drop, List.length_take]; rfl)) ?_; (with_reducible refine (spec_ExampleTexts.calls a0 t101 t102 t103 _ A2.out).mono ?_); rintro e w' ⟨rfl, ⟨nd, rfl⟩⟩; refine ⟨_, rfl, ?_⟩) | ((with_reducible refine gate_callee (f := 10) rfl ?_); refine goesL_ (some 17) rfl rfl Try.func10 (by kernel_rfl) rfl #[.int .i64 a0] rfl (by (try simp only [List.map_toArray, List.map_cons, List.map_nil]); first | done | rfl | (simp only [List.length_drop, List.length_take]; rfl)) ?_; (with_reducible refine (impl_ExampleTexts.calls a0 t104 t105 t106 _ A3.out).mono ?_); rintro e w' ⟨rfl, ⟨nd, rfl⟩⟩; refine ⟨_, rfl, ?_⟩))
      go_ret
      exact ⟨by first | rfl | (simp; done) | (simp [*]; done), by repeat (first | exact Drawn0.refl _ | apply Drawn0.step)⟩
  · rw [if_neg c4] at H
    have c4b0 : (t104.toList == t101.toList) = false := beq_eq_false_iff_ne.mpr c4
    have c4b1 : (t104.toList != t101.toList) = true := bne_iff_ne.mpr c4
    obtain rfl := Option.some.inj H
    go_enter Try.func3, Try.ntmps3
    go_wp2_with (first | ((with_reducible refine gate_callee (f := 9) rfl ?_); refine goesL_ (some 11) rfl rfl Try.func9 (by kernel_rfl) rfl #[.int .i64 a0] rfl (by (try simp only [List.map_toArray, List.map_cons, List.map_nil]); first | done | rfl | (simp only [List.length_drop, List.length_take]; rfl)) ?_; (with_reducible refine (spec_ExampleTexts.calls a0 t101 t102 t103 _ A2.out).mono ?_); rintro e w' ⟨rfl, ⟨nd, rfl⟩⟩; refine ⟨_, rfl, ?_⟩) | ((with_reducible refine gate_callee (f := 10) rfl ?_); refine goesL_ (some 17) rfl rfl Try.func10 (by kernel_rfl) rfl #[.int .i64 a0] rfl (by (try simp only [List.map_toArray, List.map_cons, List.map_nil]); first | done | rfl | (simp only [List.length_drop, List.length_take]; rfl)) ?_; (with_reducible refine (impl_ExampleTexts.calls a0 t104 t105 t106 _ A3.out).mono ?_); rintro e w' ⟨rfl, ⟨nd, rfl⟩⟩; refine ⟨_, rfl, ?_⟩))
    go_ret
    exact ⟨by first | rfl | (simp; done) | (simp [*]; done), by repeat (first | exact Drawn0.refl _ | apply Drawn0.step)⟩

/-- THE ONE PURE STATEMENT of laws_FnExactExampleTexts: yours. -/
def laws_FnExactExampleTexts.Pure : Prop := ∀ (a0 : Int), (Lit.int .i64 a0).wf = true → laws_FnExactExampleTexts.f a0 = some true
theorem laws_FnExactExampleTexts.walk (P : laws_FnExactExampleTexts.Pure) (a0 : Int) (w : World) (w0 : (Lit.int .i64 a0).wf = true) :
    Calls Try.prog 3 #[.int .i64 a0] w fun e w' => e = .returned (.bool true) ∧ Below w.heap.size w w' := by
  have h := P a0 w0
  refine (laws_FnExactExampleTexts.calls a0 true w h).mono ?_
  rintro e w' ⟨rfl, hd⟩
  exact ⟨rfl, hd.below⟩

end Go.Proofs.Ytioopdicoidmcaa.PFnExactExampleTexts
