-- PRINTED by print.py (a twelfth state) out of the translation. Not trusted: Lean checks it.
import Derived.Test.YtdpgdnifabfhgaaG0
import Derived.Test.YtdpgdnifabfhgaaG3
import Derived.Test.YtdpgdnifabfhgaaG4
namespace Go.Proofs.Ytdpgdnifabfhgaa.G
open Go.RowKit Go.Proofs.YtdpgdnifabfhgaaW.PrintWords Go.Proofs.YtdpgdnifabfhgaaW.PrintLast Go.Proofs.YtdpgdnifabfhgaaW.PrintMore
attribute [local go_sem] max2_int min2_int max_two min_two max_three min_three max_four min_four   -- for this text's walks alone
set_option linter.unusedVariables false
set_option linter.unusedSimpArgs false

/-! ### pentroughlaw03_PropSyllables: function 4 -/
def pentroughlaw03_PropSyllables.j0 : Nat → Bool → Int → Int → Option (Bool)
  | 0, _, _, _ => none
  | k + 1, x3, x5, x6 => if x3 = true then ((prop_Gcb.f k x5).bind fun t178 => (if t178 = x6 then ((prop_Mark.f x5).bind fun t179 => (if t179 = true then (some false) else ((prop_Drops.f x5).bind fun t180 => (if t180 = true then (some false) else ((prop_Ccc.f x5).bind fun t181 => (some (t181 == 0))))))) else (some false))) else (some false)
def pentroughlaw03_PropSyllables.f (k : Nat) (a0 : Int) : Option (Bool) := (pentroughlaw03_awake.f k).bind fun t177 => (if (Int.tmod (Int.tmod (Go.bits .and .i64 a0 16777215) 11172) 28) = 0 then (pentroughlaw03_PropSyllables.j0 k t177 (wrap64 (44032 + (Int.tmod (Go.bits .and .i64 a0 16777215) 11172))) 12) else (pentroughlaw03_PropSyllables.j0 k t177 (wrap64 (44032 + (Int.tmod (Go.bits .and .i64 a0 16777215) 11172))) 13))
theorem pentroughlaw03_PropSyllables.mono_l : ∀ k, (∀ y0 y1 y2, LeO (pentroughlaw03_PropSyllables.j0 k y0 y1 y2) (pentroughlaw03_PropSyllables.j0 (k + 1) y0 y1 y2))
  | 0 => fun _ _ _ r h => by simp [pentroughlaw03_PropSyllables.j0] at h
  | k + 1 => by
    have ih0 := pentroughlaw03_PropSyllables.mono_l k
    · intro y0 y1 y2
      unfold pentroughlaw03_PropSyllables.j0
      repeat' first
      | (with_reducible exact ih0 _ _ _)
      | (with_reducible exact pentroughlaw03_awake.mono _)
      | (with_reducible exact prop_Gcb.mono _ _)
      | (with_reducible exact LeO.refl _)
      | (with_reducible exact LeO.none _)
      | (with_reducible refine LeO.ite ?_ ?_)
      | (with_reducible refine LeO.bind ?_ (fun _ => ?_))
      | exact ih0 _ _ _
      | exact pentroughlaw03_awake.mono _
      | exact prop_Gcb.mono _ _
      | exact LeO.none _
      | refine LeO.ite ?_ ?_
      | refine LeO.bind ?_ (fun _ => ?_)
theorem pentroughlaw03_PropSyllables.mono : ∀ a0 k, LeO (pentroughlaw03_PropSyllables.f k a0) (pentroughlaw03_PropSyllables.f (k + 1) a0) := by
  intro a0 k
  have ih0 := pentroughlaw03_PropSyllables.mono_l k
  unfold pentroughlaw03_PropSyllables.f
  repeat' first
      | (with_reducible exact ih0 _ _ _)
      | (with_reducible exact pentroughlaw03_awake.mono _)
      | (with_reducible exact prop_Gcb.mono _ _)
      | (with_reducible exact LeO.refl _)
      | (with_reducible exact LeO.none _)
      | (with_reducible refine LeO.ite ?_ ?_)
      | (with_reducible refine LeO.bind ?_ (fun _ => ?_))
      | exact ih0 _ _ _
      | exact pentroughlaw03_awake.mono _
      | exact prop_Gcb.mono _ _
      | exact LeO.none _
      | refine LeO.ite ?_ ?_
      | refine LeO.bind ?_ (fun _ => ?_)
set_option maxHeartbeats 8000000 in
set_option maxRecDepth 100000 in
theorem pentroughlaw03_PropSyllables.calls (k : Nat) (a0 : Int) (r : Bool) (w : World) (h : pentroughlaw03_PropSyllables.f k a0 = some r) :
    Calls Try.prog 4 #[.int .i64 a0] w fun e w' => e = .returned (.bool r) ∧ Below w.heap.size w w' := by
  have HB := Aside0.mk (Below.refl w.heap.size w)
  have H : ((pentroughlaw03_awake.f k).bind fun t177 => (if (Int.tmod (Int.tmod (Go.bits .and .i64 a0 16777215) 11172) 28) = 0 then (pentroughlaw03_PropSyllables.j0 k t177 (wrap64 (44032 + (Int.tmod (Go.bits .and .i64 a0 16777215) 11172))) 12) else (pentroughlaw03_PropSyllables.j0 k t177 (wrap64 (44032 + (Int.tmod (Go.bits .and .i64 a0 16777215) 11172))) 13))) = some r := h
  clear h
  replace H := Option.bind_eq_some_iff.mp H
  obtain ⟨t177, A20, H⟩ := H
  replace H : (if (Int.tmod (Int.tmod (Go.bits .and .i64 a0 16777215) 11172) 28) = 0 then (pentroughlaw03_PropSyllables.j0 k t177 (wrap64 (44032 + (Int.tmod (Go.bits .and .i64 a0 16777215) 11172))) 12) else (pentroughlaw03_PropSyllables.j0 k t177 (wrap64 (44032 + (Int.tmod (Go.bits .and .i64 a0 16777215) 11172))) 13)) = some r := H
  have A2 := Aside0.mk A20
  clear A20
  have HC3 := Aside0.mk H
  clear H
  go_enter Try.func4, Try.ntmps4
  go_upto_if 15 with (first | ((with_reducible refine gate_callee (f := 14) rfl ?_); refine goesL_ (some 7) rfl rfl Try.func14 (by kernel_rfl) rfl #[] rfl (by (try simp only [List.map_toArray, List.map_cons, List.map_nil]); first | done | rfl | (simp only [List.length_drop, List.length_take]; rfl)) ?_; (with_reducible refine (pentroughlaw03_awake.calls k  t177 _ A2.out).mono ?_); rintro e w4 ⟨rfl, hb⟩; refine ⟨_, rfl, ?_⟩; have n0_ := Aside0.mk (below_step (by repeat (first | (with_reducible first | exact HB.out | apply below_alloc | apply pw_below_drewN | apply below_drew1) | exact HB.out)) hb); clear HB; have HB := n0_; clear n0_; (try clear hb); (try clear hb2); (try clear hk); (try clear hi)))
  (try simp only [Act.put, List.setIfInBounds_toArray, List.set_cons_zero, List.set_cons_succ])
  go_cut [6] (fun v6 wc => ∃ (kq : Nat) (x6_2 : Int), v6 = .int .i64 x6_2 ∧ Aside0 (pentroughlaw03_PropSyllables.j0 kq t177 (wrap64 (44032 + (Int.tmod (Go.bits .and .i64 a0 16777215) 11172))) x6_2 = some r) ∧ Aside0 (kq ≤ k) ∧ Aside0 (Below w.heap.size w wc))
  case first =>
    have H := HC3.out
    clear HC3
    by_cases c5 : (Int.tmod (Int.tmod (Go.bits .and .i64 a0 16777215) 11172) 28) = 0
    · rw [if_pos c5] at H
      have c5b0 : ((Int.tmod (Go.bits .and .i64 a0 16777215) 28) == 0) = true := by rw [show Int.tmod (Go.bits .and .i64 a0 16777215) 28 = Int.tmod (Int.tmod (Go.bits .and .i64 a0 16777215) 11172) 28 from (Int.tmod_tmod_of_dvd _ (by decide)).symm]; exact beq_iff_eq.mpr c5
      have c5b1 : ((Int.tmod (Go.bits .and .i64 a0 16777215) 28) != 0) = false := by rw [show Int.tmod (Go.bits .and .i64 a0 16777215) 28 = Int.tmod (Int.tmod (Go.bits .and .i64 a0 16777215) 11172) 28 from (Int.tmod_tmod_of_dvd _ (by decide)).symm]; exact bne_eq_false_iff_eq.mpr c5
      clear c5
      (first | rw [c5b0] | (simp only [i64_w, i32_w]; rw [c5b0]) | skip)
      have H' := Aside0.mk H
      clear H
      go_wp2
      go_meet
      case rel => exact ⟨_, (12), (by first | rfl | (simp; done) | (simp [*]; done)), H', ⟨by first | omega | exact Nat.le_refl _⟩, ⟨by repeat (first | (with_reducible first | exact HB.out | apply below_alloc | apply pw_below_drewN | apply below_drew1) | exact HB.out)⟩⟩
    · rw [if_neg c5] at H
      have c5b0 : ((Int.tmod (Go.bits .and .i64 a0 16777215) 28) == 0) = false := by rw [show Int.tmod (Go.bits .and .i64 a0 16777215) 28 = Int.tmod (Int.tmod (Go.bits .and .i64 a0 16777215) 11172) 28 from (Int.tmod_tmod_of_dvd _ (by decide)).symm]; exact beq_eq_false_iff_ne.mpr c5
      have c5b1 : ((Int.tmod (Go.bits .and .i64 a0 16777215) 28) != 0) = true := by rw [show Int.tmod (Go.bits .and .i64 a0 16777215) 28 = Int.tmod (Int.tmod (Go.bits .and .i64 a0 16777215) 11172) 28 from (Int.tmod_tmod_of_dvd _ (by decide)).symm]; exact bne_iff_ne.mpr c5
      (first | rw [c5b0] | (simp only [i64_w, i32_w]; rw [c5b0]) | skip)
      have H' := Aside0.mk H
      clear H
      go_wp2
      go_meet
      case rel => exact ⟨_, (13), (by first | rfl | (simp; done) | (simp [*]; done)), H', ⟨by first | omega | exact Nat.le_refl _⟩, ⟨by repeat (first | (with_reducible first | exact HB.out | apply below_alloc | apply pw_below_drewN | apply below_drew1) | exact HB.out)⟩⟩
  case rest =>
    clear HC3
    try clear c1
    try clear p2
    try clear c4
    try clear c5
    try clear c5b0
    try clear c5b1
    obtain ⟨kq, x6_2, rfl, HA, HJ2, HB⟩ := hcut
    cases kq with
    | zero => exact absurd HA.out (by simp [pentroughlaw03_PropSyllables.j0])
    | succ kj2 =>
      have H := HA.out
      clear HA
      simp only [pentroughlaw03_PropSyllables.j0] at H
      by_cases c6 : t177 = true
      · subst c6
        have H1 : ((prop_Gcb.f kj2 (wrap64 (44032 + (Int.tmod (Go.bits .and .i64 a0 16777215) 11172)))).bind fun t178 => (if t178 = x6_2 then ((prop_Mark.f (wrap64 (44032 + (Int.tmod (Go.bits .and .i64 a0 16777215) 11172)))).bind fun t179 => (if t179 = true then (some false) else ((prop_Drops.f (wrap64 (44032 + (Int.tmod (Go.bits .and .i64 a0 16777215) 11172)))).bind fun t180 => (if t180 = true then (some false) else ((prop_Ccc.f (wrap64 (44032 + (Int.tmod (Go.bits .and .i64 a0 16777215) 11172)))).bind fun t181 => (some (t181 == 0))))))) else (some false))) = some r := by rw [if_pos rfl] at H; exact H
        clear H
        have H := H1
        clear H1
        replace H := Option.bind_eq_some_iff.mp H
        obtain ⟨t178, A70, H⟩ := H
        replace H : (if t178 = x6_2 then ((prop_Mark.f (wrap64 (44032 + (Int.tmod (Go.bits .and .i64 a0 16777215) 11172)))).bind fun t179 => (if t179 = true then (some false) else ((prop_Drops.f (wrap64 (44032 + (Int.tmod (Go.bits .and .i64 a0 16777215) 11172)))).bind fun t180 => (if t180 = true then (some false) else ((prop_Ccc.f (wrap64 (44032 + (Int.tmod (Go.bits .and .i64 a0 16777215) 11172)))).bind fun t181 => (some (t181 == 0))))))) else (some false)) = some r := H
        have A7 := Aside0.mk A70
        clear A70
        by_cases c8 : t178 = x6_2
        · rw [if_pos c8] at H
          have c8b0 : (t178 == x6_2) = true := beq_iff_eq.mpr c8
          have c8b1 : (t178 != x6_2) = false := bne_eq_false_iff_eq.mpr c8
          clear c8
          replace H := Option.bind_eq_some_iff.mp H
          obtain ⟨t179, A90, H⟩ := H
          replace H : (if t179 = true then (some false) else ((prop_Drops.f (wrap64 (44032 + (Int.tmod (Go.bits .and .i64 a0 16777215) 11172)))).bind fun t180 => (if t180 = true then (some false) else ((prop_Ccc.f (wrap64 (44032 + (Int.tmod (Go.bits .and .i64 a0 16777215) 11172)))).bind fun t181 => (some (t181 == 0)))))) = some r := H
          have A9 := Aside0.mk A90
          clear A90
          by_cases c10 : t179 = true
          · subst c10
            have H1 : (some false) = some r := by rw [if_pos rfl] at H; exact H
            clear H
            have H := H1
            clear H1
            obtain rfl := Option.some.inj H
            go_wp2_with (first | (go_at_call 17; (with_reducible refine (prop_Gcb.calls kj2 (wrap64 (44032 + (Int.tmod (Go.bits .and .i64 a0 16777215) 11172))) t178 _ A7.out).mono ?_); rintro e w11 ⟨rfl, hb⟩; have n0_ := Aside0.mk (below_step (by repeat (first | (with_reducible first | exact HB.out | apply below_alloc | apply pw_below_drewN | apply below_drew1) | exact HB.out)) hb); clear HB; have HB := n0_; clear n0_; (try clear hb); (try clear hb2); (try clear hk); (try clear hi)) | (go_at_call 21; (with_reducible refine (prop_Mark.calls (wrap64 (44032 + (Int.tmod (Go.bits .and .i64 a0 16777215) 11172))) true _ A9.out).mono ?_); rintro e w12 ⟨rfl, hb⟩; have n0_ := Aside0.mk (below_step (by repeat (first | (with_reducible first | exact HB.out | apply below_alloc | apply pw_below_drewN | apply below_drew1) | exact HB.out)) hb); clear HB; have HB := n0_; clear n0_; (try clear hb); (try clear hb2); (try clear hk); (try clear hi)))
            go_ret
            exact ⟨by first | rfl | (simp [errW_none, errW_some] <;> rfl) | (simp [*, errW_none, errW_some] <;> rfl), by repeat (first | (with_reducible first | exact HB.out | apply below_alloc | apply pw_below_drewN | apply below_drew1) | exact HB.out)⟩
          · replace c10 := Bool.eq_false_iff.mpr c10
            subst c10
            have H1 : ((prop_Drops.f (wrap64 (44032 + (Int.tmod (Go.bits .and .i64 a0 16777215) 11172)))).bind fun t180 => (if t180 = true then (some false) else ((prop_Ccc.f (wrap64 (44032 + (Int.tmod (Go.bits .and .i64 a0 16777215) 11172)))).bind fun t181 => (some (t181 == 0))))) = some r := by rw [if_neg (show ¬ (false = true) by decide)] at H; exact H
            clear H
            have H := H1
            clear H1
            replace H := Option.bind_eq_some_iff.mp H
            obtain ⟨t180, A130, H⟩ := H
            replace H : (if t180 = true then (some false) else ((prop_Ccc.f (wrap64 (44032 + (Int.tmod (Go.bits .and .i64 a0 16777215) 11172)))).bind fun t181 => (some (t181 == 0)))) = some r := H
            have A13 := Aside0.mk A130
            clear A130
            by_cases c14 : t180 = true
            · subst c14
              have H1 : (some false) = some r := by rw [if_pos rfl] at H; exact H
              clear H
              have H := H1
              clear H1
              obtain rfl := Option.some.inj H
              go_wp2_with (first | (go_at_call 17; (with_reducible refine (prop_Gcb.calls kj2 (wrap64 (44032 + (Int.tmod (Go.bits .and .i64 a0 16777215) 11172))) t178 _ A7.out).mono ?_); rintro e w15 ⟨rfl, hb⟩; have n0_ := Aside0.mk (below_step (by repeat (first | (with_reducible first | exact HB.out | apply below_alloc | apply pw_below_drewN | apply below_drew1) | exact HB.out)) hb); clear HB; have HB := n0_; clear n0_; (try clear hb); (try clear hb2); (try clear hk); (try clear hi)) | (go_at_call 21; (with_reducible refine (prop_Mark.calls (wrap64 (44032 + (Int.tmod (Go.bits .and .i64 a0 16777215) 11172))) false _ A9.out).mono ?_); rintro e w16 ⟨rfl, hb⟩; have n0_ := Aside0.mk (below_step (by repeat (first | (with_reducible first | exact HB.out | apply below_alloc | apply pw_below_drewN | apply below_drew1) | exact HB.out)) hb); clear HB; have HB := n0_; clear n0_; (try clear hb); (try clear hb2); (try clear hk); (try clear hi)) | (go_at_call 19; (with_reducible refine (prop_Drops.calls (wrap64 (44032 + (Int.tmod (Go.bits .and .i64 a0 16777215) 11172))) true _ A13.out).mono ?_); rintro e w17 ⟨rfl, hb⟩; have n0_ := Aside0.mk (below_step (by repeat (first | (with_reducible first | exact HB.out | apply below_alloc | apply pw_below_drewN | apply below_drew1) | exact HB.out)) hb); clear HB; have HB := n0_; clear n0_; (try clear hb); (try clear hb2); (try clear hk); (try clear hi)))
              go_ret
              exact ⟨by first | rfl | (simp [errW_none, errW_some] <;> rfl) | (simp [*, errW_none, errW_some] <;> rfl), by repeat (first | (with_reducible first | exact HB.out | apply below_alloc | apply pw_below_drewN | apply below_drew1) | exact HB.out)⟩
            · replace c14 := Bool.eq_false_iff.mpr c14
              subst c14
              have H1 : ((prop_Ccc.f (wrap64 (44032 + (Int.tmod (Go.bits .and .i64 a0 16777215) 11172)))).bind fun t181 => (some (t181 == 0))) = some r := by rw [if_neg (show ¬ (false = true) by decide)] at H; exact H
              clear H
              have H := H1
              clear H1
              replace H := Option.bind_eq_some_iff.mp H
              obtain ⟨t181, A180, H⟩ := H
              replace H : (some (t181 == 0)) = some r := H
              have A18 := Aside0.mk A180
              clear A180
              obtain rfl := Option.some.inj H
              go_wp2_with (first | (go_at_call 17; (with_reducible refine (prop_Gcb.calls kj2 (wrap64 (44032 + (Int.tmod (Go.bits .and .i64 a0 16777215) 11172))) t178 _ A7.out).mono ?_); rintro e w19 ⟨rfl, hb⟩; have n0_ := Aside0.mk (below_step (by repeat (first | (with_reducible first | exact HB.out | apply below_alloc | apply pw_below_drewN | apply below_drew1) | exact HB.out)) hb); clear HB; have HB := n0_; clear n0_; (try clear hb); (try clear hb2); (try clear hk); (try clear hi)) | (go_at_call 21; (with_reducible refine (prop_Mark.calls (wrap64 (44032 + (Int.tmod (Go.bits .and .i64 a0 16777215) 11172))) false _ A9.out).mono ?_); rintro e w20 ⟨rfl, hb⟩; have n0_ := Aside0.mk (below_step (by repeat (first | (with_reducible first | exact HB.out | apply below_alloc | apply pw_below_drewN | apply below_drew1) | exact HB.out)) hb); clear HB; have HB := n0_; clear n0_; (try clear hb); (try clear hb2); (try clear hk); (try clear hi)) | (go_at_call 19; (with_reducible refine (prop_Drops.calls (wrap64 (44032 + (Int.tmod (Go.bits .and .i64 a0 16777215) 11172))) false _ A13.out).mono ?_); rintro e w21 ⟨rfl, hb⟩; have n0_ := Aside0.mk (below_step (by repeat (first | (with_reducible first | exact HB.out | apply below_alloc | apply pw_below_drewN | apply below_drew1) | exact HB.out)) hb); clear HB; have HB := n0_; clear n0_; (try clear hb); (try clear hb2); (try clear hk); (try clear hi)) | (go_at_call 15; (with_reducible refine (prop_Ccc.calls (wrap64 (44032 + (Int.tmod (Go.bits .and .i64 a0 16777215) 11172))) t181 _ A18.out).mono ?_); rintro e w22 ⟨rfl, hb⟩; have n0_ := Aside0.mk (below_step (by repeat (first | (with_reducible first | exact HB.out | apply below_alloc | apply pw_below_drewN | apply below_drew1) | exact HB.out)) hb); clear HB; have HB := n0_; clear n0_; (try clear hb); (try clear hb2); (try clear hk); (try clear hi)))
              go_ret
              exact ⟨by first | rfl | (simp [errW_none, errW_some] <;> rfl) | (simp [*, errW_none, errW_some] <;> rfl), by repeat (first | (with_reducible first | exact HB.out | apply below_alloc | apply pw_below_drewN | apply below_drew1) | exact HB.out)⟩
        · rw [if_neg c8] at H
          have c8b0 : (t178 == x6_2) = false := beq_eq_false_iff_ne.mpr c8
          have c8b1 : (t178 != x6_2) = true := bne_iff_ne.mpr c8
          obtain rfl := Option.some.inj H
          go_wp2_with (first | (go_at_call 17; (with_reducible refine (prop_Gcb.calls kj2 (wrap64 (44032 + (Int.tmod (Go.bits .and .i64 a0 16777215) 11172))) t178 _ A7.out).mono ?_); rintro e w23 ⟨rfl, hb⟩; have n0_ := Aside0.mk (below_step (by repeat (first | (with_reducible first | exact HB.out | apply below_alloc | apply pw_below_drewN | apply below_drew1) | exact HB.out)) hb); clear HB; have HB := n0_; clear n0_; (try clear hb); (try clear hb2); (try clear hk); (try clear hi)))
          go_ret
          exact ⟨by first | rfl | (simp [errW_none, errW_some] <;> rfl) | (simp [*, errW_none, errW_some] <;> rfl), by repeat (first | (with_reducible first | exact HB.out | apply below_alloc | apply pw_below_drewN | apply below_drew1) | exact HB.out)⟩
      · replace c6 := Bool.eq_false_iff.mpr c6
        subst c6
        have H1 : (some false) = some r := by rw [if_neg (show ¬ (false = true) by decide)] at H; exact H
        clear H
        have H := H1
        clear H1
        obtain rfl := Option.some.inj H
        go_wp2
        go_ret
        exact ⟨by first | rfl | (simp [errW_none, errW_some] <;> rfl) | (simp [*, errW_none, errW_some] <;> rfl), by repeat (first | (with_reducible first | exact HB.out | apply below_alloc | apply pw_below_drewN | apply below_drew1) | exact HB.out)⟩

/-- THE ONE PURE STATEMENT of pentroughlaw03_PropSyllables: yours. -/
def pentroughlaw03_PropSyllables.Pure : Prop := ∀ (a0 : Int), (Lit.int .i64 a0).wf = true → ∃ k, pentroughlaw03_PropSyllables.f k a0 = some true
theorem pentroughlaw03_PropSyllables.walk (P : pentroughlaw03_PropSyllables.Pure) (a0 : Int) (w : World) (w0 : (Lit.int .i64 a0).wf = true) :
    Calls Try.prog 4 #[.int .i64 a0] w fun e w' => e = .returned (.bool true) ∧ Below w.heap.size w w' := by
  obtain ⟨k, h⟩ := P a0 w0
  refine (pentroughlaw03_PropSyllables.calls k a0 true w h).mono ?_
  rintro e w' ⟨rfl, hd⟩
  exact ⟨rfl, hd⟩

end Go.Proofs.Ytdpgdnifabfhgaa.G
