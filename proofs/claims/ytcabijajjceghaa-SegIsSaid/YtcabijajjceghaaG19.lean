-- PRINTED by print.py (a twelfth state) out of the translation. Not trusted: Lean checks it.
import Derived.Test.YtcabijajjceghaaG0
namespace Go.Proofs.Ytcabijajjceghaa.G
open Go.RowKit Go.Proofs.YtcabijajjceghaaW.PrintWords Go.Proofs.YtcabijajjceghaaW.PrintLast Go.Proofs.YtcabijajjceghaaW.PrintMore
attribute [local go_sem] max2_int min2_int max_two min_two max_three min_three max_four min_four   -- for this text's walks alone
set_option linter.unusedVariables false
set_option linter.unusedSimpArgs false

/-! ### pentroughref11_stays: function 69 -/
def pentroughref11_stays.j0 : Nat → Int → Int → Bool → Option (Bool)
  | 0, _, _, _ => none
  | k + 1, x0, x1, x22 => if x22 = true then (some true) else (if x0 = 10 then (if x1 = 10 then (some true) else (if x1 = 11 then (some true) else (if x0 = 11 then (if x1 = 4 then (some true) else (if x1 = 5 then (some true) else (if x1 = 8 then (some true) else (some (x0 == 7))))) else (if x0 = 13 then (if x1 = 4 then (some true) else (if x1 = 5 then (some true) else (if x1 = 8 then (some true) else (some (x0 == 7))))) else (if x1 = 4 then (some true) else (if x1 = 5 then (some true) else (if x1 = 8 then (some true) else (some (x0 == 7))))))))) else (if x0 = 12 then (if x1 = 10 then (some true) else (if x1 = 11 then (some true) else (if x0 = 11 then (if x1 = 4 then (some true) else (if x1 = 5 then (some true) else (if x1 = 8 then (some true) else (some (x0 == 7))))) else (if x0 = 13 then (if x1 = 4 then (some true) else (if x1 = 5 then (some true) else (if x1 = 8 then (some true) else (some (x0 == 7))))) else (if x1 = 4 then (some true) else (if x1 = 5 then (some true) else (if x1 = 8 then (some true) else (some (x0 == 7))))))))) else (if x0 = 11 then (if x1 = 11 then (some true) else (if x1 = 4 then (some true) else (if x1 = 5 then (some true) else (if x1 = 8 then (some true) else (some (x0 == 7)))))) else (if x0 = 13 then (if x1 = 11 then (some true) else (if x1 = 4 then (some true) else (if x1 = 5 then (some true) else (if x1 = 8 then (some true) else (some (x0 == 7)))))) else (if x1 = 4 then (some true) else (if x1 = 5 then (some true) else (if x1 = 8 then (some true) else (some (x0 == 7)))))))))
def pentroughref11_stays.f (k : Nat) (a0 : Int) (a1 : Int) : Option (Bool) := if a0 = 9 then (if a1 = 9 then (pentroughref11_stays.j0 k a0 a1 true) else (if a1 = 10 then (pentroughref11_stays.j0 k a0 a1 true) else (if a1 = 12 then (pentroughref11_stays.j0 k a0 a1 true) else (pentroughref11_stays.j0 k a0 a1 (a1 == 13))))) else (pentroughref11_stays.j0 k a0 a1 false)
theorem pentroughref11_stays.mono_l : ∀ k, (∀ y0 y1 y2, LeO (pentroughref11_stays.j0 k y0 y1 y2) (pentroughref11_stays.j0 (k + 1) y0 y1 y2))
  | 0 => fun _ _ _ r h => by simp [pentroughref11_stays.j0] at h
  | k + 1 => by
    have ih0 := pentroughref11_stays.mono_l k
    · intro y0 y1 y2
      unfold pentroughref11_stays.j0
      repeat' first
      | (with_reducible exact ih0 _ _ _)
      | (with_reducible exact LeO.refl _)
      | (with_reducible exact LeO.none _)
      | (with_reducible refine LeO.ite ?_ ?_)
      | (with_reducible refine LeO.bind ?_ (fun _ => ?_))
      | exact ih0 _ _ _
      | exact LeO.none _
      | refine LeO.ite ?_ ?_
      | refine LeO.bind ?_ (fun _ => ?_)
theorem pentroughref11_stays.mono : ∀ a0 a1 k, LeO (pentroughref11_stays.f k a0 a1) (pentroughref11_stays.f (k + 1) a0 a1) := by
  intro a0 a1 k
  have ih0 := pentroughref11_stays.mono_l k
  unfold pentroughref11_stays.f
  repeat' first
      | (with_reducible exact ih0 _ _ _)
      | (with_reducible exact LeO.refl _)
      | (with_reducible exact LeO.none _)
      | (with_reducible refine LeO.ite ?_ ?_)
      | (with_reducible refine LeO.bind ?_ (fun _ => ?_))
      | exact ih0 _ _ _
      | exact LeO.none _
      | refine LeO.ite ?_ ?_
      | refine LeO.bind ?_ (fun _ => ?_)
set_option maxHeartbeats 8000000 in
set_option maxRecDepth 100000 in
theorem pentroughref11_stays.calls (k : Nat) (a0 : Int) (a1 : Int) (r : Bool) (w : World) (h : pentroughref11_stays.f k a0 a1 = some r) :
    Calls Try.prog 69 #[.int .i64 a0, .int .i64 a1] w fun e w' => e = .returned (.bool r) ∧ Drawn0 w w' := by
  have H : (if a0 = 9 then (if a1 = 9 then (pentroughref11_stays.j0 k a0 a1 true) else (if a1 = 10 then (pentroughref11_stays.j0 k a0 a1 true) else (if a1 = 12 then (pentroughref11_stays.j0 k a0 a1 true) else (pentroughref11_stays.j0 k a0 a1 (a1 == 13))))) else (pentroughref11_stays.j0 k a0 a1 false)) = some r := h
  clear h
  have HC3 := Aside0.mk H
  clear H
  go_enter Try.func69, Try.ntmps69
  go_upto_region 1 with (fail)
  go_cut [22] (fun v22 wc => ∃ (kq : Nat) (x22_2 : Bool), v22 = .bool x22_2 ∧ Aside0 (pentroughref11_stays.j0 kq a0 a1 x22_2 = some r) ∧ Aside0 (kq ≤ k) ∧ Drawn0 w wc)
  case first =>
    have H := HC3.out
    clear HC3
    by_cases c4 : a0 = 9
    · rw [if_pos c4] at H
      have c4b0 : (a0 == 9) = true := beq_iff_eq.mpr c4
      have c4b1 : (a0 != 9) = false := bne_eq_false_iff_eq.mpr c4
      clear c4
      (first | rw [c4b0] | (simp only [i64_w, i32_w]; rw [c4b0]) | skip)
      by_cases c5 : a1 = 9
      · rw [if_pos c5] at H
        have c5b0 : (a1 == 9) = true := beq_iff_eq.mpr c5
        have c5b1 : (a1 != 9) = false := bne_eq_false_iff_eq.mpr c5
        clear c5
        have H' := Aside0.mk H
        clear H
        go_wp2
        go_meet
        case rel => exact ⟨_, (true), (by first | rfl | (simp; done) | (simp [*]; done)), H', ⟨by first | omega | exact Nat.le_refl _⟩, by repeat (first | exact Drawn0.refl _ | apply Drawn0.step)⟩
      · rw [if_neg c5] at H
        have c5b0 : (a1 == 9) = false := beq_eq_false_iff_ne.mpr c5
        have c5b1 : (a1 != 9) = true := bne_iff_ne.mpr c5
        by_cases c6 : a1 = 10
        · rw [if_pos c6] at H
          have c6b0 : (a1 == 10) = true := beq_iff_eq.mpr c6
          have c6b1 : (a1 != 10) = false := bne_eq_false_iff_eq.mpr c6
          clear c6
          have H' := Aside0.mk H
          clear H
          go_wp2
          go_meet
          case rel => exact ⟨_, (true), (by first | rfl | (simp; done) | (simp [*]; done)), H', ⟨by first | omega | exact Nat.le_refl _⟩, by repeat (first | exact Drawn0.refl _ | apply Drawn0.step)⟩
        · rw [if_neg c6] at H
          have c6b0 : (a1 == 10) = false := beq_eq_false_iff_ne.mpr c6
          have c6b1 : (a1 != 10) = true := bne_iff_ne.mpr c6
          by_cases c7 : a1 = 12
          · rw [if_pos c7] at H
            have c7b0 : (a1 == 12) = true := beq_iff_eq.mpr c7
            have c7b1 : (a1 != 12) = false := bne_eq_false_iff_eq.mpr c7
            clear c7
            have H' := Aside0.mk H
            clear H
            go_wp2
            go_meet
            case rel => exact ⟨_, (true), (by first | rfl | (simp; done) | (simp [*]; done)), H', ⟨by first | omega | exact Nat.le_refl _⟩, by repeat (first | exact Drawn0.refl _ | apply Drawn0.step)⟩
          · rw [if_neg c7] at H
            have c7b0 : (a1 == 12) = false := beq_eq_false_iff_ne.mpr c7
            have c7b1 : (a1 != 12) = true := bne_iff_ne.mpr c7
            have H' := Aside0.mk H
            clear H
            go_wp2
            go_meet
            case rel => exact ⟨_, ((a1 == 13)), (by first | rfl | (simp; done) | (simp [*]; done)), H', ⟨by first | omega | exact Nat.le_refl _⟩, by repeat (first | exact Drawn0.refl _ | apply Drawn0.step)⟩
    · rw [if_neg c4] at H
      have c4b0 : (a0 == 9) = false := beq_eq_false_iff_ne.mpr c4
      have c4b1 : (a0 != 9) = true := bne_iff_ne.mpr c4
      (first | rw [c4b0] | (simp only [i64_w, i32_w]; rw [c4b0]) | skip)
      have H' := Aside0.mk H
      clear H
      go_wp2
      go_meet
      case rel => exact ⟨_, (false), (by first | rfl | (simp; done) | (simp [*]; done)), H', ⟨by first | omega | exact Nat.le_refl _⟩, by repeat (first | exact Drawn0.refl _ | apply Drawn0.step)⟩
  case rest =>
    clear HC3
    try clear p2
    try clear c4
    try clear c4b0
    try clear c4b1
    try clear c5
    try clear c5b0
    try clear c5b1
    try clear c6
    try clear c6b0
    try clear c6b1
    try clear c7
    try clear c7b0
    try clear c7b1
    obtain ⟨kq, x22_2, rfl, HA, HJ2, ⟨mc2, rfl⟩⟩ := hcut
    cases kq with
    | zero => exact absurd HA.out (by simp [pentroughref11_stays.j0])
    | succ kj2 =>
      have H := HA.out
      clear HA
      simp only [pentroughref11_stays.j0] at H
      by_cases c8 : x22_2 = true
      · subst c8
        have H1 : (some true) = some r := by rw [if_pos rfl] at H; exact H
        clear H
        have H := H1
        clear H1
        obtain rfl := Option.some.inj H
        go_wp2
        go_ret
        exact ⟨by first | rfl | (simp; done) | (simp [*]; done), by repeat (first | exact Drawn0.refl _ | apply Drawn0.step)⟩
      · replace c8 := Bool.eq_false_iff.mpr c8
        subst c8
        have H1 : (if a0 = 10 then (if a1 = 10 then (some true) else (if a1 = 11 then (some true) else (if a0 = 11 then (if a1 = 4 then (some true) else (if a1 = 5 then (some true) else (if a1 = 8 then (some true) else (some (a0 == 7))))) else (if a0 = 13 then (if a1 = 4 then (some true) else (if a1 = 5 then (some true) else (if a1 = 8 then (some true) else (some (a0 == 7))))) else (if a1 = 4 then (some true) else (if a1 = 5 then (some true) else (if a1 = 8 then (some true) else (some (a0 == 7))))))))) else (if a0 = 12 then (if a1 = 10 then (some true) else (if a1 = 11 then (some true) else (if a0 = 11 then (if a1 = 4 then (some true) else (if a1 = 5 then (some true) else (if a1 = 8 then (some true) else (some (a0 == 7))))) else (if a0 = 13 then (if a1 = 4 then (some true) else (if a1 = 5 then (some true) else (if a1 = 8 then (some true) else (some (a0 == 7))))) else (if a1 = 4 then (some true) else (if a1 = 5 then (some true) else (if a1 = 8 then (some true) else (some (a0 == 7))))))))) else (if a0 = 11 then (if a1 = 11 then (some true) else (if a1 = 4 then (some true) else (if a1 = 5 then (some true) else (if a1 = 8 then (some true) else (some (a0 == 7)))))) else (if a0 = 13 then (if a1 = 11 then (some true) else (if a1 = 4 then (some true) else (if a1 = 5 then (some true) else (if a1 = 8 then (some true) else (some (a0 == 7)))))) else (if a1 = 4 then (some true) else (if a1 = 5 then (some true) else (if a1 = 8 then (some true) else (some (a0 == 7))))))))) = some r := by rw [if_neg (show ¬ (false = true) by decide)] at H; exact H
        clear H
        have H := H1
        clear H1
        by_cases c9 : a0 = 10
        · rw [if_pos c9] at H
          have c9b0 : (a0 == 10) = true := beq_iff_eq.mpr c9
          have c9b1 : (a0 != 10) = false := bne_eq_false_iff_eq.mpr c9
          clear c9
          by_cases c10 : a1 = 10
          · rw [if_pos c10] at H
            have c10b0 : (a1 == 10) = true := beq_iff_eq.mpr c10
            have c10b1 : (a1 != 10) = false := bne_eq_false_iff_eq.mpr c10
            clear c10
            obtain rfl := Option.some.inj H
            go_wp2
            go_ret
            exact ⟨by first | rfl | (simp; done) | (simp [*]; done), by repeat (first | exact Drawn0.refl _ | apply Drawn0.step)⟩
          · rw [if_neg c10] at H
            have c10b0 : (a1 == 10) = false := beq_eq_false_iff_ne.mpr c10
            have c10b1 : (a1 != 10) = true := bne_iff_ne.mpr c10
            by_cases c11 : a1 = 11
            · rw [if_pos c11] at H
              have c11b0 : (a1 == 11) = true := beq_iff_eq.mpr c11
              have c11b1 : (a1 != 11) = false := bne_eq_false_iff_eq.mpr c11
              clear c11
              obtain rfl := Option.some.inj H
              go_wp2
              go_ret
              exact ⟨by first | rfl | (simp; done) | (simp [*]; done), by repeat (first | exact Drawn0.refl _ | apply Drawn0.step)⟩
            · rw [if_neg c11] at H
              have c11b0 : (a1 == 11) = false := beq_eq_false_iff_ne.mpr c11
              have c11b1 : (a1 != 11) = true := bne_iff_ne.mpr c11
              by_cases c12 : a0 = 11
              · rw [if_pos c12] at H
                have c12b0 : (a0 == 11) = true := beq_iff_eq.mpr c12
                have c12b1 : (a0 != 11) = false := bne_eq_false_iff_eq.mpr c12
                clear c12
                by_cases c13 : a1 = 4
                · rw [if_pos c13] at H
                  have c13b0 : (a1 == 4) = true := beq_iff_eq.mpr c13
                  have c13b1 : (a1 != 4) = false := bne_eq_false_iff_eq.mpr c13
                  clear c13
                  obtain rfl := Option.some.inj H
                  go_wp2
                  go_ret
                  exact ⟨by first | rfl | (simp; done) | (simp [*]; done), by repeat (first | exact Drawn0.refl _ | apply Drawn0.step)⟩
                · rw [if_neg c13] at H
                  have c13b0 : (a1 == 4) = false := beq_eq_false_iff_ne.mpr c13
                  have c13b1 : (a1 != 4) = true := bne_iff_ne.mpr c13
                  by_cases c14 : a1 = 5
                  · rw [if_pos c14] at H
                    have c14b0 : (a1 == 5) = true := beq_iff_eq.mpr c14
                    have c14b1 : (a1 != 5) = false := bne_eq_false_iff_eq.mpr c14
                    clear c14
                    obtain rfl := Option.some.inj H
                    go_wp2
                    go_ret
                    exact ⟨by first | rfl | (simp; done) | (simp [*]; done), by repeat (first | exact Drawn0.refl _ | apply Drawn0.step)⟩
                  · rw [if_neg c14] at H
                    have c14b0 : (a1 == 5) = false := beq_eq_false_iff_ne.mpr c14
                    have c14b1 : (a1 != 5) = true := bne_iff_ne.mpr c14
                    by_cases c15 : a1 = 8
                    · rw [if_pos c15] at H
                      have c15b0 : (a1 == 8) = true := beq_iff_eq.mpr c15
                      have c15b1 : (a1 != 8) = false := bne_eq_false_iff_eq.mpr c15
                      clear c15
                      obtain rfl := Option.some.inj H
                      go_wp2
                      go_ret
                      exact ⟨by first | rfl | (simp; done) | (simp [*]; done), by repeat (first | exact Drawn0.refl _ | apply Drawn0.step)⟩
                    · rw [if_neg c15] at H
                      have c15b0 : (a1 == 8) = false := beq_eq_false_iff_ne.mpr c15
                      have c15b1 : (a1 != 8) = true := bne_iff_ne.mpr c15
                      obtain rfl := Option.some.inj H
                      go_wp2
                      go_ret
                      exact ⟨by first | rfl | (simp; done) | (simp [*]; done), by repeat (first | exact Drawn0.refl _ | apply Drawn0.step)⟩
              · rw [if_neg c12] at H
                have c12b0 : (a0 == 11) = false := beq_eq_false_iff_ne.mpr c12
                have c12b1 : (a0 != 11) = true := bne_iff_ne.mpr c12
                by_cases c16 : a0 = 13
                · rw [if_pos c16] at H
                  have c16b0 : (a0 == 13) = true := beq_iff_eq.mpr c16
                  have c16b1 : (a0 != 13) = false := bne_eq_false_iff_eq.mpr c16
                  clear c16
                  by_cases c17 : a1 = 4
                  · rw [if_pos c17] at H
                    have c17b0 : (a1 == 4) = true := beq_iff_eq.mpr c17
                    have c17b1 : (a1 != 4) = false := bne_eq_false_iff_eq.mpr c17
                    clear c17
                    obtain rfl := Option.some.inj H
                    go_wp2
                    go_ret
                    exact ⟨by first | rfl | (simp; done) | (simp [*]; done), by repeat (first | exact Drawn0.refl _ | apply Drawn0.step)⟩
                  · rw [if_neg c17] at H
                    have c17b0 : (a1 == 4) = false := beq_eq_false_iff_ne.mpr c17
                    have c17b1 : (a1 != 4) = true := bne_iff_ne.mpr c17
                    by_cases c18 : a1 = 5
                    · rw [if_pos c18] at H
                      have c18b0 : (a1 == 5) = true := beq_iff_eq.mpr c18
                      have c18b1 : (a1 != 5) = false := bne_eq_false_iff_eq.mpr c18
                      clear c18
                      obtain rfl := Option.some.inj H
                      go_wp2
                      go_ret
                      exact ⟨by first | rfl | (simp; done) | (simp [*]; done), by repeat (first | exact Drawn0.refl _ | apply Drawn0.step)⟩
                    · rw [if_neg c18] at H
                      have c18b0 : (a1 == 5) = false := beq_eq_false_iff_ne.mpr c18
                      have c18b1 : (a1 != 5) = true := bne_iff_ne.mpr c18
                      by_cases c19 : a1 = 8
                      · rw [if_pos c19] at H
                        have c19b0 : (a1 == 8) = true := beq_iff_eq.mpr c19
                        have c19b1 : (a1 != 8) = false := bne_eq_false_iff_eq.mpr c19
                        clear c19
                        obtain rfl := Option.some.inj H
                        go_wp2
                        go_ret
                        exact ⟨by first | rfl | (simp; done) | (simp [*]; done), by repeat (first | exact Drawn0.refl _ | apply Drawn0.step)⟩
                      · rw [if_neg c19] at H
                        have c19b0 : (a1 == 8) = false := beq_eq_false_iff_ne.mpr c19
                        have c19b1 : (a1 != 8) = true := bne_iff_ne.mpr c19
                        obtain rfl := Option.some.inj H
                        go_wp2
                        go_ret
                        exact ⟨by first | rfl | (simp; done) | (simp [*]; done), by repeat (first | exact Drawn0.refl _ | apply Drawn0.step)⟩
                · rw [if_neg c16] at H
                  have c16b0 : (a0 == 13) = false := beq_eq_false_iff_ne.mpr c16
                  have c16b1 : (a0 != 13) = true := bne_iff_ne.mpr c16
                  by_cases c20 : a1 = 4
                  · rw [if_pos c20] at H
                    have c20b0 : (a1 == 4) = true := beq_iff_eq.mpr c20
                    have c20b1 : (a1 != 4) = false := bne_eq_false_iff_eq.mpr c20
                    clear c20
                    obtain rfl := Option.some.inj H
                    go_wp2
                    go_ret
                    exact ⟨by first | rfl | (simp; done) | (simp [*]; done), by repeat (first | exact Drawn0.refl _ | apply Drawn0.step)⟩
                  · rw [if_neg c20] at H
                    have c20b0 : (a1 == 4) = false := beq_eq_false_iff_ne.mpr c20
                    have c20b1 : (a1 != 4) = true := bne_iff_ne.mpr c20
                    by_cases c21 : a1 = 5
                    · rw [if_pos c21] at H
                      have c21b0 : (a1 == 5) = true := beq_iff_eq.mpr c21
                      have c21b1 : (a1 != 5) = false := bne_eq_false_iff_eq.mpr c21
                      clear c21
                      obtain rfl := Option.some.inj H
                      go_wp2
                      go_ret
                      exact ⟨by first | rfl | (simp; done) | (simp [*]; done), by repeat (first | exact Drawn0.refl _ | apply Drawn0.step)⟩
                    · rw [if_neg c21] at H
                      have c21b0 : (a1 == 5) = false := beq_eq_false_iff_ne.mpr c21
                      have c21b1 : (a1 != 5) = true := bne_iff_ne.mpr c21
                      by_cases c22 : a1 = 8
                      · rw [if_pos c22] at H
                        have c22b0 : (a1 == 8) = true := beq_iff_eq.mpr c22
                        have c22b1 : (a1 != 8) = false := bne_eq_false_iff_eq.mpr c22
                        clear c22
                        obtain rfl := Option.some.inj H
                        go_wp2
                        go_ret
                        exact ⟨by first | rfl | (simp; done) | (simp [*]; done), by repeat (first | exact Drawn0.refl _ | apply Drawn0.step)⟩
                      · rw [if_neg c22] at H
                        have c22b0 : (a1 == 8) = false := beq_eq_false_iff_ne.mpr c22
                        have c22b1 : (a1 != 8) = true := bne_iff_ne.mpr c22
                        obtain rfl := Option.some.inj H
                        go_wp2
                        go_ret
                        exact ⟨by first | rfl | (simp; done) | (simp [*]; done), by repeat (first | exact Drawn0.refl _ | apply Drawn0.step)⟩
        · rw [if_neg c9] at H
          have c9b0 : (a0 == 10) = false := beq_eq_false_iff_ne.mpr c9
          have c9b1 : (a0 != 10) = true := bne_iff_ne.mpr c9
          by_cases c23 : a0 = 12
          · rw [if_pos c23] at H
            have c23b0 : (a0 == 12) = true := beq_iff_eq.mpr c23
            have c23b1 : (a0 != 12) = false := bne_eq_false_iff_eq.mpr c23
            clear c23
            by_cases c24 : a1 = 10
            · rw [if_pos c24] at H
              have c24b0 : (a1 == 10) = true := beq_iff_eq.mpr c24
              have c24b1 : (a1 != 10) = false := bne_eq_false_iff_eq.mpr c24
              clear c24
              obtain rfl := Option.some.inj H
              go_wp2
              go_ret
              exact ⟨by first | rfl | (simp; done) | (simp [*]; done), by repeat (first | exact Drawn0.refl _ | apply Drawn0.step)⟩
            · rw [if_neg c24] at H
              have c24b0 : (a1 == 10) = false := beq_eq_false_iff_ne.mpr c24
              have c24b1 : (a1 != 10) = true := bne_iff_ne.mpr c24
              by_cases c25 : a1 = 11
              · rw [if_pos c25] at H
                have c25b0 : (a1 == 11) = true := beq_iff_eq.mpr c25
                have c25b1 : (a1 != 11) = false := bne_eq_false_iff_eq.mpr c25
                clear c25
                obtain rfl := Option.some.inj H
                go_wp2
                go_ret
                exact ⟨by first | rfl | (simp; done) | (simp [*]; done), by repeat (first | exact Drawn0.refl _ | apply Drawn0.step)⟩
              · rw [if_neg c25] at H
                have c25b0 : (a1 == 11) = false := beq_eq_false_iff_ne.mpr c25
                have c25b1 : (a1 != 11) = true := bne_iff_ne.mpr c25
                by_cases c26 : a0 = 11
                · rw [if_pos c26] at H
                  have c26b0 : (a0 == 11) = true := beq_iff_eq.mpr c26
                  have c26b1 : (a0 != 11) = false := bne_eq_false_iff_eq.mpr c26
                  clear c26
                  by_cases c27 : a1 = 4
                  · rw [if_pos c27] at H
                    have c27b0 : (a1 == 4) = true := beq_iff_eq.mpr c27
                    have c27b1 : (a1 != 4) = false := bne_eq_false_iff_eq.mpr c27
                    clear c27
                    obtain rfl := Option.some.inj H
                    go_wp2
                    go_ret
                    exact ⟨by first | rfl | (simp; done) | (simp [*]; done), by repeat (first | exact Drawn0.refl _ | apply Drawn0.step)⟩
                  · rw [if_neg c27] at H
                    have c27b0 : (a1 == 4) = false := beq_eq_false_iff_ne.mpr c27
                    have c27b1 : (a1 != 4) = true := bne_iff_ne.mpr c27
                    by_cases c28 : a1 = 5
                    · rw [if_pos c28] at H
                      have c28b0 : (a1 == 5) = true := beq_iff_eq.mpr c28
                      have c28b1 : (a1 != 5) = false := bne_eq_false_iff_eq.mpr c28
                      clear c28
                      obtain rfl := Option.some.inj H
                      go_wp2
                      go_ret
                      exact ⟨by first | rfl | (simp; done) | (simp [*]; done), by repeat (first | exact Drawn0.refl _ | apply Drawn0.step)⟩
                    · rw [if_neg c28] at H
                      have c28b0 : (a1 == 5) = false := beq_eq_false_iff_ne.mpr c28
                      have c28b1 : (a1 != 5) = true := bne_iff_ne.mpr c28
                      by_cases c29 : a1 = 8
                      · rw [if_pos c29] at H
                        have c29b0 : (a1 == 8) = true := beq_iff_eq.mpr c29
                        have c29b1 : (a1 != 8) = false := bne_eq_false_iff_eq.mpr c29
                        clear c29
                        obtain rfl := Option.some.inj H
                        go_wp2
                        go_ret
                        exact ⟨by first | rfl | (simp; done) | (simp [*]; done), by repeat (first | exact Drawn0.refl _ | apply Drawn0.step)⟩
                      · rw [if_neg c29] at H
                        have c29b0 : (a1 == 8) = false := beq_eq_false_iff_ne.mpr c29
                        have c29b1 : (a1 != 8) = true := bne_iff_ne.mpr c29
                        obtain rfl := Option.some.inj H
                        go_wp2
                        go_ret
                        exact ⟨by first | rfl | (simp; done) | (simp [*]; done), by repeat (first | exact Drawn0.refl _ | apply Drawn0.step)⟩
                · rw [if_neg c26] at H
                  have c26b0 : (a0 == 11) = false := beq_eq_false_iff_ne.mpr c26
                  have c26b1 : (a0 != 11) = true := bne_iff_ne.mpr c26
                  by_cases c30 : a0 = 13
                  · rw [if_pos c30] at H
                    have c30b0 : (a0 == 13) = true := beq_iff_eq.mpr c30
                    have c30b1 : (a0 != 13) = false := bne_eq_false_iff_eq.mpr c30
                    clear c30
                    by_cases c31 : a1 = 4
                    · rw [if_pos c31] at H
                      have c31b0 : (a1 == 4) = true := beq_iff_eq.mpr c31
                      have c31b1 : (a1 != 4) = false := bne_eq_false_iff_eq.mpr c31
                      clear c31
                      obtain rfl := Option.some.inj H
                      go_wp2
                      go_ret
                      exact ⟨by first | rfl | (simp; done) | (simp [*]; done), by repeat (first | exact Drawn0.refl _ | apply Drawn0.step)⟩
                    · rw [if_neg c31] at H
                      have c31b0 : (a1 == 4) = false := beq_eq_false_iff_ne.mpr c31
                      have c31b1 : (a1 != 4) = true := bne_iff_ne.mpr c31
                      by_cases c32 : a1 = 5
                      · rw [if_pos c32] at H
                        have c32b0 : (a1 == 5) = true := beq_iff_eq.mpr c32
                        have c32b1 : (a1 != 5) = false := bne_eq_false_iff_eq.mpr c32
                        clear c32
                        obtain rfl := Option.some.inj H
                        go_wp2
                        go_ret
                        exact ⟨by first | rfl | (simp; done) | (simp [*]; done), by repeat (first | exact Drawn0.refl _ | apply Drawn0.step)⟩
                      · rw [if_neg c32] at H
                        have c32b0 : (a1 == 5) = false := beq_eq_false_iff_ne.mpr c32
                        have c32b1 : (a1 != 5) = true := bne_iff_ne.mpr c32
                        by_cases c33 : a1 = 8
                        · rw [if_pos c33] at H
                          have c33b0 : (a1 == 8) = true := beq_iff_eq.mpr c33
                          have c33b1 : (a1 != 8) = false := bne_eq_false_iff_eq.mpr c33
                          clear c33
                          obtain rfl := Option.some.inj H
                          go_wp2
                          go_ret
                          exact ⟨by first | rfl | (simp; done) | (simp [*]; done), by repeat (first | exact Drawn0.refl _ | apply Drawn0.step)⟩
                        · rw [if_neg c33] at H
                          have c33b0 : (a1 == 8) = false := beq_eq_false_iff_ne.mpr c33
                          have c33b1 : (a1 != 8) = true := bne_iff_ne.mpr c33
                          obtain rfl := Option.some.inj H
                          go_wp2
                          go_ret
                          exact ⟨by first | rfl | (simp; done) | (simp [*]; done), by repeat (first | exact Drawn0.refl _ | apply Drawn0.step)⟩
                  · rw [if_neg c30] at H
                    have c30b0 : (a0 == 13) = false := beq_eq_false_iff_ne.mpr c30
                    have c30b1 : (a0 != 13) = true := bne_iff_ne.mpr c30
                    by_cases c34 : a1 = 4
                    · rw [if_pos c34] at H
                      have c34b0 : (a1 == 4) = true := beq_iff_eq.mpr c34
                      have c34b1 : (a1 != 4) = false := bne_eq_false_iff_eq.mpr c34
                      clear c34
                      obtain rfl := Option.some.inj H
                      go_wp2
                      go_ret
                      exact ⟨by first | rfl | (simp; done) | (simp [*]; done), by repeat (first | exact Drawn0.refl _ | apply Drawn0.step)⟩
                    · rw [if_neg c34] at H
                      have c34b0 : (a1 == 4) = false := beq_eq_false_iff_ne.mpr c34
                      have c34b1 : (a1 != 4) = true := bne_iff_ne.mpr c34
                      by_cases c35 : a1 = 5
                      · rw [if_pos c35] at H
                        have c35b0 : (a1 == 5) = true := beq_iff_eq.mpr c35
                        have c35b1 : (a1 != 5) = false := bne_eq_false_iff_eq.mpr c35
                        clear c35
                        obtain rfl := Option.some.inj H
                        go_wp2
                        go_ret
                        exact ⟨by first | rfl | (simp; done) | (simp [*]; done), by repeat (first | exact Drawn0.refl _ | apply Drawn0.step)⟩
                      · rw [if_neg c35] at H
                        have c35b0 : (a1 == 5) = false := beq_eq_false_iff_ne.mpr c35
                        have c35b1 : (a1 != 5) = true := bne_iff_ne.mpr c35
                        by_cases c36 : a1 = 8
                        · rw [if_pos c36] at H
                          have c36b0 : (a1 == 8) = true := beq_iff_eq.mpr c36
                          have c36b1 : (a1 != 8) = false := bne_eq_false_iff_eq.mpr c36
                          clear c36
                          obtain rfl := Option.some.inj H
                          go_wp2
                          go_ret
                          exact ⟨by first | rfl | (simp; done) | (simp [*]; done), by repeat (first | exact Drawn0.refl _ | apply Drawn0.step)⟩
                        · rw [if_neg c36] at H
                          have c36b0 : (a1 == 8) = false := beq_eq_false_iff_ne.mpr c36
                          have c36b1 : (a1 != 8) = true := bne_iff_ne.mpr c36
                          obtain rfl := Option.some.inj H
                          go_wp2
                          go_ret
                          exact ⟨by first | rfl | (simp; done) | (simp [*]; done), by repeat (first | exact Drawn0.refl _ | apply Drawn0.step)⟩
          · rw [if_neg c23] at H
            have c23b0 : (a0 == 12) = false := beq_eq_false_iff_ne.mpr c23
            have c23b1 : (a0 != 12) = true := bne_iff_ne.mpr c23
            by_cases c37 : a0 = 11
            · rw [if_pos c37] at H
              have c37b0 : (a0 == 11) = true := beq_iff_eq.mpr c37
              have c37b1 : (a0 != 11) = false := bne_eq_false_iff_eq.mpr c37
              clear c37
              by_cases c38 : a1 = 11
              · rw [if_pos c38] at H
                have c38b0 : (a1 == 11) = true := beq_iff_eq.mpr c38
                have c38b1 : (a1 != 11) = false := bne_eq_false_iff_eq.mpr c38
                clear c38
                obtain rfl := Option.some.inj H
                go_wp2
                go_ret
                exact ⟨by first | rfl | (simp; done) | (simp [*]; done), by repeat (first | exact Drawn0.refl _ | apply Drawn0.step)⟩
              · rw [if_neg c38] at H
                have c38b0 : (a1 == 11) = false := beq_eq_false_iff_ne.mpr c38
                have c38b1 : (a1 != 11) = true := bne_iff_ne.mpr c38
                by_cases c39 : a1 = 4
                · rw [if_pos c39] at H
                  have c39b0 : (a1 == 4) = true := beq_iff_eq.mpr c39
                  have c39b1 : (a1 != 4) = false := bne_eq_false_iff_eq.mpr c39
                  clear c39
                  obtain rfl := Option.some.inj H
                  go_wp2
                  go_ret
                  exact ⟨by first | rfl | (simp; done) | (simp [*]; done), by repeat (first | exact Drawn0.refl _ | apply Drawn0.step)⟩
                · rw [if_neg c39] at H
                  have c39b0 : (a1 == 4) = false := beq_eq_false_iff_ne.mpr c39
                  have c39b1 : (a1 != 4) = true := bne_iff_ne.mpr c39
                  by_cases c40 : a1 = 5
                  · rw [if_pos c40] at H
                    have c40b0 : (a1 == 5) = true := beq_iff_eq.mpr c40
                    have c40b1 : (a1 != 5) = false := bne_eq_false_iff_eq.mpr c40
                    clear c40
                    obtain rfl := Option.some.inj H
                    go_wp2
                    go_ret
                    exact ⟨by first | rfl | (simp; done) | (simp [*]; done), by repeat (first | exact Drawn0.refl _ | apply Drawn0.step)⟩
                  · rw [if_neg c40] at H
                    have c40b0 : (a1 == 5) = false := beq_eq_false_iff_ne.mpr c40
                    have c40b1 : (a1 != 5) = true := bne_iff_ne.mpr c40
                    by_cases c41 : a1 = 8
                    · rw [if_pos c41] at H
                      have c41b0 : (a1 == 8) = true := beq_iff_eq.mpr c41
                      have c41b1 : (a1 != 8) = false := bne_eq_false_iff_eq.mpr c41
                      clear c41
                      obtain rfl := Option.some.inj H
                      go_wp2
                      go_ret
                      exact ⟨by first | rfl | (simp; done) | (simp [*]; done), by repeat (first | exact Drawn0.refl _ | apply Drawn0.step)⟩
                    · rw [if_neg c41] at H
                      have c41b0 : (a1 == 8) = false := beq_eq_false_iff_ne.mpr c41
                      have c41b1 : (a1 != 8) = true := bne_iff_ne.mpr c41
                      obtain rfl := Option.some.inj H
                      go_wp2
                      go_ret
                      exact ⟨by first | rfl | (simp; done) | (simp [*]; done), by repeat (first | exact Drawn0.refl _ | apply Drawn0.step)⟩
            · rw [if_neg c37] at H
              have c37b0 : (a0 == 11) = false := beq_eq_false_iff_ne.mpr c37
              have c37b1 : (a0 != 11) = true := bne_iff_ne.mpr c37
              by_cases c42 : a0 = 13
              · rw [if_pos c42] at H
                have c42b0 : (a0 == 13) = true := beq_iff_eq.mpr c42
                have c42b1 : (a0 != 13) = false := bne_eq_false_iff_eq.mpr c42
                clear c42
                by_cases c43 : a1 = 11
                · rw [if_pos c43] at H
                  have c43b0 : (a1 == 11) = true := beq_iff_eq.mpr c43
                  have c43b1 : (a1 != 11) = false := bne_eq_false_iff_eq.mpr c43
                  clear c43
                  obtain rfl := Option.some.inj H
                  go_wp2
                  go_ret
                  exact ⟨by first | rfl | (simp; done) | (simp [*]; done), by repeat (first | exact Drawn0.refl _ | apply Drawn0.step)⟩
                · rw [if_neg c43] at H
                  have c43b0 : (a1 == 11) = false := beq_eq_false_iff_ne.mpr c43
                  have c43b1 : (a1 != 11) = true := bne_iff_ne.mpr c43
                  by_cases c44 : a1 = 4
                  · rw [if_pos c44] at H
                    have c44b0 : (a1 == 4) = true := beq_iff_eq.mpr c44
                    have c44b1 : (a1 != 4) = false := bne_eq_false_iff_eq.mpr c44
                    clear c44
                    obtain rfl := Option.some.inj H
                    go_wp2
                    go_ret
                    exact ⟨by first | rfl | (simp; done) | (simp [*]; done), by repeat (first | exact Drawn0.refl _ | apply Drawn0.step)⟩
                  · rw [if_neg c44] at H
                    have c44b0 : (a1 == 4) = false := beq_eq_false_iff_ne.mpr c44
                    have c44b1 : (a1 != 4) = true := bne_iff_ne.mpr c44
                    by_cases c45 : a1 = 5
                    · rw [if_pos c45] at H
                      have c45b0 : (a1 == 5) = true := beq_iff_eq.mpr c45
                      have c45b1 : (a1 != 5) = false := bne_eq_false_iff_eq.mpr c45
                      clear c45
                      obtain rfl := Option.some.inj H
                      go_wp2
                      go_ret
                      exact ⟨by first | rfl | (simp; done) | (simp [*]; done), by repeat (first | exact Drawn0.refl _ | apply Drawn0.step)⟩
                    · rw [if_neg c45] at H
                      have c45b0 : (a1 == 5) = false := beq_eq_false_iff_ne.mpr c45
                      have c45b1 : (a1 != 5) = true := bne_iff_ne.mpr c45
                      by_cases c46 : a1 = 8
                      · rw [if_pos c46] at H
                        have c46b0 : (a1 == 8) = true := beq_iff_eq.mpr c46
                        have c46b1 : (a1 != 8) = false := bne_eq_false_iff_eq.mpr c46
                        clear c46
                        obtain rfl := Option.some.inj H
                        go_wp2
                        go_ret
                        exact ⟨by first | rfl | (simp; done) | (simp [*]; done), by repeat (first | exact Drawn0.refl _ | apply Drawn0.step)⟩
                      · rw [if_neg c46] at H
                        have c46b0 : (a1 == 8) = false := beq_eq_false_iff_ne.mpr c46
                        have c46b1 : (a1 != 8) = true := bne_iff_ne.mpr c46
                        obtain rfl := Option.some.inj H
                        go_wp2
                        go_ret
                        exact ⟨by first | rfl | (simp; done) | (simp [*]; done), by repeat (first | exact Drawn0.refl _ | apply Drawn0.step)⟩
              · rw [if_neg c42] at H
                have c42b0 : (a0 == 13) = false := beq_eq_false_iff_ne.mpr c42
                have c42b1 : (a0 != 13) = true := bne_iff_ne.mpr c42
                by_cases c47 : a1 = 4
                · rw [if_pos c47] at H
                  have c47b0 : (a1 == 4) = true := beq_iff_eq.mpr c47
                  have c47b1 : (a1 != 4) = false := bne_eq_false_iff_eq.mpr c47
                  clear c47
                  obtain rfl := Option.some.inj H
                  go_wp2
                  go_ret
                  exact ⟨by first | rfl | (simp; done) | (simp [*]; done), by repeat (first | exact Drawn0.refl _ | apply Drawn0.step)⟩
                · rw [if_neg c47] at H
                  have c47b0 : (a1 == 4) = false := beq_eq_false_iff_ne.mpr c47
                  have c47b1 : (a1 != 4) = true := bne_iff_ne.mpr c47
                  by_cases c48 : a1 = 5
                  · rw [if_pos c48] at H
                    have c48b0 : (a1 == 5) = true := beq_iff_eq.mpr c48
                    have c48b1 : (a1 != 5) = false := bne_eq_false_iff_eq.mpr c48
                    clear c48
                    obtain rfl := Option.some.inj H
                    go_wp2
                    go_ret
                    exact ⟨by first | rfl | (simp; done) | (simp [*]; done), by repeat (first | exact Drawn0.refl _ | apply Drawn0.step)⟩
                  · rw [if_neg c48] at H
                    have c48b0 : (a1 == 5) = false := beq_eq_false_iff_ne.mpr c48
                    have c48b1 : (a1 != 5) = true := bne_iff_ne.mpr c48
                    by_cases c49 : a1 = 8
                    · rw [if_pos c49] at H
                      have c49b0 : (a1 == 8) = true := beq_iff_eq.mpr c49
                      have c49b1 : (a1 != 8) = false := bne_eq_false_iff_eq.mpr c49
                      clear c49
                      obtain rfl := Option.some.inj H
                      go_wp2
                      go_ret
                      exact ⟨by first | rfl | (simp; done) | (simp [*]; done), by repeat (first | exact Drawn0.refl _ | apply Drawn0.step)⟩
                    · rw [if_neg c49] at H
                      have c49b0 : (a1 == 8) = false := beq_eq_false_iff_ne.mpr c49
                      have c49b1 : (a1 != 8) = true := bne_iff_ne.mpr c49
                      obtain rfl := Option.some.inj H
                      go_wp2
                      go_ret
                      exact ⟨by first | rfl | (simp; done) | (simp [*]; done), by repeat (first | exact Drawn0.refl _ | apply Drawn0.step)⟩

end Go.Proofs.Ytcabijajjceghaa.G
