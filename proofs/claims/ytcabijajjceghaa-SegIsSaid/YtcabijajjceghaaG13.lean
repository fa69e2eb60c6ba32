-- PRINTED by print.py (a twelfth state) out of the translation. Not trusted: Lean checks it.
import Derived.Test.YtcabijajjceghaaG0
import Derived.Test.YtcabijajjceghaaG12
namespace Go.Proofs.Ytcabijajjceghaa.G
open Go.RowKit Go.Proofs.YtcabijajjceghaaW.PrintWords Go.Proofs.YtcabijajjceghaaW.PrintLast Go.Proofs.YtcabijajjceghaaW.PrintMore
attribute [local go_sem] max2_int min2_int max_two min_two max_three min_three max_four min_four   -- for this text's walks alone
set_option linter.unusedVariables false
set_option linter.unusedSimpArgs false

/-! ### seg_Sane: function 32 -/
def seg_Sane.f (k : Nat) (l0_0 : List Int) (a0_1 : Bool) (a0_2 : Int) (a0_3 : Bool) (a0_4 : Bool) : Option (Bool) := if (l0_0.length : Int) ≤ 32 then ((clus_Sane.f k a0_1 a0_2 a0_3 a0_4).bind fun t334 => (if t334 = true then (some (a0_1 == (decide ((l0_0.length : Int) > 0)))) else (some false))) else (some false)
theorem seg_Sane.mono : ∀ a0 a1 a2 a3 a4 k, LeO (seg_Sane.f k a0 a1 a2 a3 a4) (seg_Sane.f (k + 1) a0 a1 a2 a3 a4) := by
  intro a0 a1 a2 a3 a4 k
  unfold seg_Sane.f
  repeat' first
      | (with_reducible exact clus_Sane.mono _ _ _ _ _)
      | (with_reducible exact LeO.refl _)
      | (with_reducible exact LeO.none _)
      | (with_reducible refine LeO.ite ?_ ?_)
      | (with_reducible refine LeO.bind ?_ (fun _ => ?_))
      | exact clus_Sane.mono _ _ _ _ _
      | exact LeO.none _
      | refine LeO.ite ?_ ?_
      | refine LeO.bind ?_ (fun _ => ?_)
set_option maxHeartbeats 8000000 in
set_option maxRecDepth 100000 in
theorem seg_Sane.calls (k : Nat) (A0_0 : Option Addr) (c0_0 : Nat) (l0_0 : List Int) (a0_1 : Bool) (a0_2 : Int) (a0_3 : Bool) (a0_4 : Bool) (r : Bool) (w : World) (hr0_0 : Kd.C (Kd.int .i64) w A0_0 l0_0.length l0_0) (hc0_0 : l0_0.length ≤ c0_0) (h : seg_Sane.f k l0_0 a0_1 a0_2 a0_3 a0_4 = some r) :
    Calls Try.prog 32 #[.agg #[.slice A0_0 l0_0.length c0_0, .bool a0_1, .int .i64 a0_2, .bool a0_3, .bool a0_4]] w fun e w' => e = .returned (.bool r) ∧ Below w.heap.size w w' := by
  have hu51 := Try.underlying51
  have hu49 := Try.underlying49
  have HR0_0 := Aside0.mk hr0_0
  have HC0_0 := Aside0.mk hc0_0
  clear hr0_0 hc0_0
  have HB := Aside0.mk (Below.refl w.heap.size w)
  have H : (if (l0_0.length : Int) ≤ 32 then ((clus_Sane.f k a0_1 a0_2 a0_3 a0_4).bind fun t334 => (if t334 = true then (some (a0_1 == (decide ((l0_0.length : Int) > 0)))) else (some false))) else (some false)) = some r := h
  clear h
  by_cases c2 : (l0_0.length : Int) ≤ 32
  · rw [if_pos c2] at H
    have c2b0 : decide ((l0_0.length : Int) ≤ 32) = true := decide_eq_true c2
    have c2b1 : decide (l0_0.length ≤ 32) = true := decide_eq_true (by omega)
    clear c2
    replace H := Option.bind_eq_some_iff.mp H
    obtain ⟨t334, A30, H⟩ := H
    replace H : (if t334 = true then (some (a0_1 == (decide ((l0_0.length : Int) > 0)))) else (some false)) = some r := H
    have A3 := Aside0.mk A30
    clear A30
    by_cases c4 : t334 = true
    · subst c4
      have H1 : (some (a0_1 == (decide ((l0_0.length : Int) > 0)))) = some r := by rw [if_pos rfl] at H; exact H
      clear H
      have H := H1
      clear H1
      obtain rfl := Option.some.inj H
      go_enter Try.func32, Try.ntmps32
      go_wp2_with (first | ((with_reducible refine gate_dst (N := 1) rfl ?_); (try (refine gate_guard (by rfl) ?_; dsimp only)); refine box_event ?hg (N := 1) ?hd (cs := #[.slice A0_0 l0_0.length c0_0, .bool a0_1, .int .i64 a0_2, .bool a0_3, .bool a0_4]) (t := 51) ?hr ?_; (case hd => rfl); (case hg => rfl); (case hr => first | (go_simp; done) | (go_simp; rfl)); intro gb333 hg w5 hbox hb; have n0_ := Aside0.mk (below_step (by repeat (first | (with_reducible first | exact HB.out | apply below_alloc | apply pw_below_drewN | apply below_drew1) | exact HB.out)) hb); have n1_ := Aside0.mk (hbox); have n2_ := Aside0.mk ((by rw [hg]; exact (below_size (by repeat (first | (with_reducible first | exact HB.out | apply below_alloc | apply pw_below_drewN | apply below_drew1) | exact HB.out))) : w.heap.size ≤ gb333)); have n3_ := Aside0.mk ((by rw [hg]; exact (below_size (by repeat (first | (with_reducible first | exact HB.out | apply below_alloc | apply pw_below_drewN | apply below_drew1) | exact HB.out))) : w.heap.size ≤ gb333)); clear HB; have HB := n0_; have BK333 := n1_; have GW333 := n2_; have GE333 := n3_; clear n0_ n1_ n2_ n3_; clear hb hbox hg; have hcz6_0 : w5.cell? ⟨gb333, 0, none⟩ = some (.slice A0_0 l0_0.length c0_0) := (blk_cell BK333.out 0).trans rfl; have hcz6_1 : w5.cell? ⟨gb333, 1, none⟩ = some (.bool a0_1) := (blk_cell BK333.out 1).trans rfl; have hcz6_2 : w5.cell? ⟨gb333, 2, none⟩ = some (.int .i64 a0_2) := (blk_cell BK333.out 2).trans rfl; have hcz6_3 : w5.cell? ⟨gb333, 3, none⟩ = some (.bool a0_3) := (blk_cell BK333.out 3).trans rfl; have hcz6_4 : w5.cell? ⟨gb333, 4, none⟩ = some (.bool a0_4) := (blk_cell BK333.out 4).trans rfl; have hfz6_0 := blk_frozen BK333.out 0; have hfz6_1 := blk_frozen BK333.out 1; have hfz6_2 := blk_frozen BK333.out 2; have hfz6_3 := blk_frozen BK333.out 3; have hfz6_4 := blk_frozen BK333.out 4) | (go_at_call 55; (with_reducible refine (clus_Sane.calls k a0_1 a0_2 a0_3 a0_4 true _ A3.out).mono ?_); rintro e w7 ⟨rfl, hb⟩; have n0_ := Aside0.mk (blk_below (g := gb333) (o := .cells #[.slice A0_0 l0_0.length c0_0, .bool a0_1, .int .i64 a0_2, .bool a0_3, .bool a0_4] 51 (0, 0)) (by (with_reducible repeat (first | refine blk_drewN ?_ _ | refine blk_drew ?_ | refine blk_alloc ?_ _)); exact BK333.out) hb); have n1_ := Aside0.mk (below_step (by repeat (first | (with_reducible first | exact HB.out | apply below_alloc | apply pw_below_drewN | apply below_drew1 | refine below_set ?_ GE333.out) | exact HB.out)) hb); clear BK333; clear HB; have BK333 := n0_; have HB := n1_; clear n0_ n1_; (try clear hb); (try clear hb2); (try clear hk); (try clear hi); have hcz8_0 : w7.cell? ⟨gb333, 0, none⟩ = some (.slice A0_0 l0_0.length c0_0) := (blk_cell BK333.out 0).trans rfl; have hcz8_1 : w7.cell? ⟨gb333, 1, none⟩ = some (.bool a0_1) := (blk_cell BK333.out 1).trans rfl; have hcz8_2 : w7.cell? ⟨gb333, 2, none⟩ = some (.int .i64 a0_2) := (blk_cell BK333.out 2).trans rfl; have hcz8_3 : w7.cell? ⟨gb333, 3, none⟩ = some (.bool a0_3) := (blk_cell BK333.out 3).trans rfl; have hcz8_4 : w7.cell? ⟨gb333, 4, none⟩ = some (.bool a0_4) := (blk_cell BK333.out 4).trans rfl; have hfz8_0 := blk_frozen BK333.out 0; have hfz8_1 := blk_frozen BK333.out 1; have hfz8_2 := blk_frozen BK333.out 2; have hfz8_3 := blk_frozen BK333.out 3; have hfz8_4 := blk_frozen BK333.out 4))
      go_ret
      exact ⟨by first | rfl | (simp [errW_none, errW_some] <;> rfl) | (simp [*, errW_none, errW_some] <;> rfl), by repeat (first | (with_reducible first | exact HB.out | apply below_alloc | apply pw_below_drewN | apply below_drew1 | refine below_set ?_ GE333.out) | exact HB.out)⟩
    · replace c4 := Bool.eq_false_iff.mpr c4
      subst c4
      have H1 : (some false) = some r := by rw [if_neg (show ¬ (false = true) by decide)] at H; exact H
      clear H
      have H := H1
      clear H1
      obtain rfl := Option.some.inj H
      go_enter Try.func32, Try.ntmps32
      go_wp2_with (first | ((with_reducible refine gate_dst (N := 1) rfl ?_); (try (refine gate_guard (by rfl) ?_; dsimp only)); refine box_event ?hg (N := 1) ?hd (cs := #[.slice A0_0 l0_0.length c0_0, .bool a0_1, .int .i64 a0_2, .bool a0_3, .bool a0_4]) (t := 51) ?hr ?_; (case hd => rfl); (case hg => rfl); (case hr => first | (go_simp; done) | (go_simp; rfl)); intro gb333 hg w9 hbox hb; have n0_ := Aside0.mk (below_step (by repeat (first | (with_reducible first | exact HB.out | apply below_alloc | apply pw_below_drewN | apply below_drew1) | exact HB.out)) hb); have n1_ := Aside0.mk (hbox); have n2_ := Aside0.mk ((by rw [hg]; exact (below_size (by repeat (first | (with_reducible first | exact HB.out | apply below_alloc | apply pw_below_drewN | apply below_drew1) | exact HB.out))) : w.heap.size ≤ gb333)); have n3_ := Aside0.mk ((by rw [hg]; exact (below_size (by repeat (first | (with_reducible first | exact HB.out | apply below_alloc | apply pw_below_drewN | apply below_drew1) | exact HB.out))) : w.heap.size ≤ gb333)); clear HB; have HB := n0_; have BK333 := n1_; have GW333 := n2_; have GE333 := n3_; clear n0_ n1_ n2_ n3_; clear hb hbox hg; have hcz10_0 : w9.cell? ⟨gb333, 0, none⟩ = some (.slice A0_0 l0_0.length c0_0) := (blk_cell BK333.out 0).trans rfl; have hcz10_1 : w9.cell? ⟨gb333, 1, none⟩ = some (.bool a0_1) := (blk_cell BK333.out 1).trans rfl; have hcz10_2 : w9.cell? ⟨gb333, 2, none⟩ = some (.int .i64 a0_2) := (blk_cell BK333.out 2).trans rfl; have hcz10_3 : w9.cell? ⟨gb333, 3, none⟩ = some (.bool a0_3) := (blk_cell BK333.out 3).trans rfl; have hcz10_4 : w9.cell? ⟨gb333, 4, none⟩ = some (.bool a0_4) := (blk_cell BK333.out 4).trans rfl; have hfz10_0 := blk_frozen BK333.out 0; have hfz10_1 := blk_frozen BK333.out 1; have hfz10_2 := blk_frozen BK333.out 2; have hfz10_3 := blk_frozen BK333.out 3; have hfz10_4 := blk_frozen BK333.out 4) | (go_at_call 55; (with_reducible refine (clus_Sane.calls k a0_1 a0_2 a0_3 a0_4 false _ A3.out).mono ?_); rintro e w11 ⟨rfl, hb⟩; have n0_ := Aside0.mk (blk_below (g := gb333) (o := .cells #[.slice A0_0 l0_0.length c0_0, .bool a0_1, .int .i64 a0_2, .bool a0_3, .bool a0_4] 51 (0, 0)) (by (with_reducible repeat (first | refine blk_drewN ?_ _ | refine blk_drew ?_ | refine blk_alloc ?_ _)); exact BK333.out) hb); have n1_ := Aside0.mk (below_step (by repeat (first | (with_reducible first | exact HB.out | apply below_alloc | apply pw_below_drewN | apply below_drew1 | refine below_set ?_ GE333.out) | exact HB.out)) hb); clear BK333; clear HB; have BK333 := n0_; have HB := n1_; clear n0_ n1_; (try clear hb); (try clear hb2); (try clear hk); (try clear hi)))
      go_ret
      exact ⟨by first | rfl | (simp [errW_none, errW_some] <;> rfl) | (simp [*, errW_none, errW_some] <;> rfl), by repeat (first | (with_reducible first | exact HB.out | apply below_alloc | apply pw_below_drewN | apply below_drew1 | refine below_set ?_ GE333.out) | exact HB.out)⟩
  · rw [if_neg c2] at H
    have c2b0 : decide ((l0_0.length : Int) ≤ 32) = false := decide_eq_false c2
    have c2b1 : decide (l0_0.length ≤ 32) = false := decide_eq_false (by omega)
    clear c2
    obtain rfl := Option.some.inj H
    go_enter Try.func32, Try.ntmps32
    go_wp2_with (first | ((with_reducible refine gate_dst (N := 1) rfl ?_); (try (refine gate_guard (by rfl) ?_; dsimp only)); refine box_event ?hg (N := 1) ?hd (cs := #[.slice A0_0 l0_0.length c0_0, .bool a0_1, .int .i64 a0_2, .bool a0_3, .bool a0_4]) (t := 51) ?hr ?_; (case hd => rfl); (case hg => rfl); (case hr => first | (go_simp; done) | (go_simp; rfl)); intro gb333 hg w12 hbox hb; have n0_ := Aside0.mk (below_step (by repeat (first | (with_reducible first | exact HB.out | apply below_alloc | apply pw_below_drewN | apply below_drew1) | exact HB.out)) hb); have n1_ := Aside0.mk (hbox); have n2_ := Aside0.mk ((by rw [hg]; exact (below_size (by repeat (first | (with_reducible first | exact HB.out | apply below_alloc | apply pw_below_drewN | apply below_drew1) | exact HB.out))) : w.heap.size ≤ gb333)); have n3_ := Aside0.mk ((by rw [hg]; exact (below_size (by repeat (first | (with_reducible first | exact HB.out | apply below_alloc | apply pw_below_drewN | apply below_drew1) | exact HB.out))) : w.heap.size ≤ gb333)); clear HB; have HB := n0_; have BK333 := n1_; have GW333 := n2_; have GE333 := n3_; clear n0_ n1_ n2_ n3_; clear hb hbox hg; have hcz13_0 : w12.cell? ⟨gb333, 0, none⟩ = some (.slice A0_0 l0_0.length c0_0) := (blk_cell BK333.out 0).trans rfl; have hcz13_1 : w12.cell? ⟨gb333, 1, none⟩ = some (.bool a0_1) := (blk_cell BK333.out 1).trans rfl; have hcz13_2 : w12.cell? ⟨gb333, 2, none⟩ = some (.int .i64 a0_2) := (blk_cell BK333.out 2).trans rfl; have hcz13_3 : w12.cell? ⟨gb333, 3, none⟩ = some (.bool a0_3) := (blk_cell BK333.out 3).trans rfl; have hcz13_4 : w12.cell? ⟨gb333, 4, none⟩ = some (.bool a0_4) := (blk_cell BK333.out 4).trans rfl; have hfz13_0 := blk_frozen BK333.out 0; have hfz13_1 := blk_frozen BK333.out 1; have hfz13_2 := blk_frozen BK333.out 2; have hfz13_3 := blk_frozen BK333.out 3; have hfz13_4 := blk_frozen BK333.out 4))
    go_ret
    exact ⟨by first | rfl | (simp [errW_none, errW_some] <;> rfl) | (simp [*, errW_none, errW_some] <;> rfl), by repeat (first | (with_reducible first | exact HB.out | apply below_alloc | apply pw_below_drewN | apply below_drew1 | refine below_set ?_ GE333.out) | exact HB.out)⟩

/-! ### pentroughref01_Same: function 29 -/
def pentroughref01_Same.l0 : Nat → List Int → List Int → Int → Option (Bool)
  | 0, _, _, _ => none
  | k + 1, x0, x1, x5 => if x5 < (x0.length : Int) then (if 0 ≤ x5 then (if x5 < (x1.length : Int) then (if (rd x0 x5) = (rd x1 x5) then (pentroughref01_Same.l0 k x0 x1 (wrap64 (x5 + 1))) else (some false)) else (none)) else (none)) else (some true)
def pentroughref01_Same.f (k : Nat) (l0 : List Int) (l1 : List Int) : Option (Bool) := if (l0.length : Int) = (l1.length : Int) then (pentroughref01_Same.l0 k l0 l1 0) else (some false)
theorem pentroughref01_Same.mono_l : ∀ k, (∀ y0 y1 y2, LeO (pentroughref01_Same.l0 k y0 y1 y2) (pentroughref01_Same.l0 (k + 1) y0 y1 y2))
  | 0 => fun _ _ _ r h => by simp [pentroughref01_Same.l0] at h
  | k + 1 => by
    have ih0 := pentroughref01_Same.mono_l k
    · intro y0 y1 y2
      unfold pentroughref01_Same.l0
      repeat' first
      | (with_reducible exact ih0 _ _ _)
      | (with_reducible exact LeO.refl _)
      | (with_reducible exact LeO.none _)
      | (with_reducible refine LeO.ite ?_ ?_)
      | (with_reducible refine LeO.bind ?_ (fun _ => ?_))
      | exact ih0 _ _ _
      | exact LeO.none _
      | refine LeO.ite ?_ ?_
      | refine LeO.bind ?_ (fun _ => ?_)
theorem pentroughref01_Same.mono : ∀ a0 a1 k, LeO (pentroughref01_Same.f k a0 a1) (pentroughref01_Same.f (k + 1) a0 a1) := by
  intro a0 a1 k
  have ih0 := pentroughref01_Same.mono_l k
  unfold pentroughref01_Same.f
  repeat' first
      | (with_reducible exact ih0 _ _ _)
      | (with_reducible exact LeO.refl _)
      | (with_reducible exact LeO.none _)
      | (with_reducible refine LeO.ite ?_ ?_)
      | (with_reducible refine LeO.bind ?_ (fun _ => ?_))
      | exact ih0 _ _ _
      | exact LeO.none _
      | refine LeO.ite ?_ ?_
      | refine LeO.bind ?_ (fun _ => ?_)
set_option maxHeartbeats 8000000 in
set_option maxRecDepth 100000 in
theorem pentroughref01_Same.calls (k : Nat) (A0 : Option Addr) (c0 : Nat) (l0 : List Int) (A1 : Option Addr) (c1 : Nat) (l1 : List Int) (r : Bool) (w : World) (hr0 : Kd.C (Kd.int .i64) w A0 l0.length l0) (hc0 : l0.length ≤ c0) (hr1 : Kd.C (Kd.int .i64) w A1 l1.length l1) (hc1 : l1.length ≤ c1) (h : pentroughref01_Same.f k l0 l1 = some r) :
    Calls Try.prog 29 #[.slice A0 l0.length c0, .slice A1 l1.length c1] w fun e w' => e = .returned (.bool r) ∧ Drawn0 w w' := by
  have HR0 := Aside0.mk hr0
  have HC0 := Aside0.mk hc0
  clear hr0 hc0
  have HR1 := Aside0.mk hr1
  have HC1 := Aside0.mk hc1
  clear hr1 hc1
  have H : (if (l0.length : Int) = (l1.length : Int) then (pentroughref01_Same.l0 k l0 l1 0) else (some false)) = some r := h
  clear h
  by_cases c3 : (l0.length : Int) = (l1.length : Int)
  · rw [if_pos c3] at H
    have c3b0 : ((l0.length : Int) == (l1.length : Int)) = true := beq_iff_eq.mpr c3
    have c3b1 : ((l0.length : Int) != (l1.length : Int)) = false := bne_eq_false_iff_eq.mpr c3
    have c3b2 : (l0.length == l1.length) = true := by first | simpa using c3 | (simp at c3 ⊢; omega)
    clear c3
    have H' := Aside0.mk H
    clear H
    go_enter Try.func29, Try.ntmps29
    go_wp2
    repeat (go_quiet (fail); try go_wp2)
    go_loopg [5] k (fun kq v5 w' => ∃ (x5_1 : Int), v5 = .int .i64 x5_1 ∧ Aside0 (pentroughref01_Same.l0 kq l0 l1 x5_1 = some r) ∧ Aside0 (kq ≤ k) ∧ Drawn0 w w')
    case atStart => exact ⟨(0), (by first | rfl | (simp; done) | (simp [*]; done)), H', ⟨Nat.le_refl _⟩, by repeat (first | exact Drawn0.refl _ | apply Drawn0.step)⟩
    case round =>
      clear H'
      try clear c1
      try clear c2
      try clear p2
      try clear c3
      try clear c3b0
      try clear c3b1
      try clear c3b2
      obtain ⟨x5_1, rfl, HA, HK1, ⟨m1, rfl⟩⟩ := hrel
      cases gk with
      | zero => exact absurd HA.out (by simp [pentroughref01_Same.l0])
      | succ k1 =>
        have H := HA.out
        clear HA
        simp only [pentroughref01_Same.l0] at H
        by_cases c4 : x5_1 < (l0.length : Int)
        · rw [if_pos c4] at H
          have c4b0 : decide (x5_1 < (l0.length : Int)) = true := decide_eq_true c4
          clear c4
          by_cases c5 : 0 ≤ x5_1
          · rw [if_pos c5] at H
            have c5b0 : decide (0 ≤ x5_1) = true := decide_eq_true c5
            clear c5
            by_cases c6 : x5_1 < (l1.length : Int)
            · rw [if_pos c6] at H
              have c6b0 : decide (x5_1 < (l1.length : Int)) = true := decide_eq_true c6
              clear c6
              by_cases c7 : (rd l0 x5_1) = (rd l1 x5_1)
              · rw [if_pos c7] at H
                have c7b0 : ((rd l0 x5_1) == (rd l1 x5_1)) = true := beq_iff_eq.mpr c7
                have c7b1 : ((rd l0 x5_1) != (rd l1 x5_1)) = false := bne_eq_false_iff_eq.mpr c7
                clear c7
                have H' := Aside0.mk H
                clear H
                have p346 : 0 ≤ (x5_1 : Int) := of_decide_eq_true (by first | (with_reducible assumption) | assumption)
                have q346 : x5_1 < (l0.length : Int) := of_decide_eq_true (by first | (with_reducible assumption) | assumption)
                obtain ⟨ad346, e346, hx346_0⟩ := Kd.at_int HR0.out x5_1 p346 q346
                cases e346
                replace p346 := eq_true p346
                replace q346 := eq_true q346
                have p347 : 0 ≤ (x5_1 : Int) := of_decide_eq_true (by first | (with_reducible assumption) | assumption)
                have q347 : x5_1 < (l1.length : Int) := of_decide_eq_true (by first | (with_reducible assumption) | assumption)
                obtain ⟨ad347, e347, hx347_0⟩ := Kd.at_int HR1.out x5_1 p347 q347
                cases e347
                replace p347 := eq_true p347
                replace q347 := eq_true q347
                go_wp2
                repeat (go_quiet (fail); try go_wp2)
                go_roundg k1
                case measure => have := HK1.out; omega
                case rel => exact ⟨(wrap64 (x5_1 + 1)), (by first | rfl | (simp; done) | (simp [*]; done)), H', ⟨by have := HK1.out; omega⟩, by repeat (first | exact Drawn0.refl _ | apply Drawn0.step)⟩
              · rw [if_neg c7] at H
                have c7b0 : ((rd l0 x5_1) == (rd l1 x5_1)) = false := beq_eq_false_iff_ne.mpr c7
                have c7b1 : ((rd l0 x5_1) != (rd l1 x5_1)) = true := bne_iff_ne.mpr c7
                obtain rfl := Option.some.inj H
                have p346 : 0 ≤ (x5_1 : Int) := of_decide_eq_true (by first | (with_reducible assumption) | assumption)
                have q346 : x5_1 < (l0.length : Int) := of_decide_eq_true (by first | (with_reducible assumption) | assumption)
                obtain ⟨ad346, e346, hx346_0⟩ := Kd.at_int HR0.out x5_1 p346 q346
                cases e346
                replace p346 := eq_true p346
                replace q346 := eq_true q346
                have p347 : 0 ≤ (x5_1 : Int) := of_decide_eq_true (by first | (with_reducible assumption) | assumption)
                have q347 : x5_1 < (l1.length : Int) := of_decide_eq_true (by first | (with_reducible assumption) | assumption)
                obtain ⟨ad347, e347, hx347_0⟩ := Kd.at_int HR1.out x5_1 p347 q347
                cases e347
                replace p347 := eq_true p347
                replace q347 := eq_true q347
                go_wp2
                repeat (go_quiet (fail); try go_wp2)
                go_ret
                exact ⟨by first | rfl | (simp; done) | (simp [*]; done), by repeat (first | exact Drawn0.refl _ | apply Drawn0.step)⟩
            · rw [if_neg c6] at H
              exact absurd H (by simp)
          · rw [if_neg c5] at H
            exact absurd H (by simp)
        · rw [if_neg c4] at H
          have c4b0 : decide (x5_1 < (l0.length : Int)) = false := decide_eq_false c4
          clear c4
          obtain rfl := Option.some.inj H
          go_wp2
          repeat (go_quiet (fail); try go_wp2)
          go_ret
          exact ⟨by first | rfl | (simp; done) | (simp [*]; done), by repeat (first | exact Drawn0.refl _ | apply Drawn0.step)⟩
  · rw [if_neg c3] at H
    have c3b0 : ((l0.length : Int) == (l1.length : Int)) = false := beq_eq_false_iff_ne.mpr c3
    have c3b1 : ((l0.length : Int) != (l1.length : Int)) = true := bne_iff_ne.mpr c3
    have c3b2 : (l0.length == l1.length) = false := by first | simpa using c3 | (simp at c3 ⊢; omega)
    obtain rfl := Option.some.inj H
    go_enter Try.func29, Try.ntmps29
    go_wp2
    repeat (go_quiet (fail); try go_wp2)
    go_ret
    exact ⟨by first | rfl | (simp; done) | (simp [*]; done), by repeat (first | exact Drawn0.refl _ | apply Drawn0.step)⟩


/-! ### prop_kinds: function 76 -/
def prop_kinds.f  : Option ((List (S102))) := some (([(⟨0, 9, 3⟩ : S102), (⟨10, 10, 2⟩ : S102), (⟨11, 12, 3⟩ : S102), (⟨13, 13, 1⟩ : S102), (⟨14, 31, 3⟩ : S102), (⟨127, 159, 3⟩ : S102), (⟨169, 169, 14⟩ : S102), (⟨173, 173, 3⟩ : S102), (⟨174, 174, 14⟩ : S102), (⟨768, 879, 4⟩ : S102), (⟨1536, 1541, 7⟩ : S102), (⟨1564, 1564, 3⟩ : S102), (⟨1611, 1631, 4⟩ : S102), (⟨1757, 1757, 7⟩ : S102), (⟨2307, 2307, 8⟩ : S102), (⟨2363, 2363, 8⟩ : S102), (⟨2364, 2364, 4⟩ : S102), (⟨2366, 2368, 8⟩ : S102), (⟨2377, 2380, 8⟩ : S102), (⟨2381, 2381, 4⟩ : S102), (⟨4352, 4447, 9⟩ : S102), (⟨4448, 4519, 10⟩ : S102), (⟨4520, 4607, 11⟩ : S102), (⟨8203, 8203, 3⟩ : S102), (⟨8204, 8204, 4⟩ : S102), (⟨8205, 8205, 5⟩ : S102), (⟨8206, 8207, 3⟩ : S102), (⟨8232, 8238, 3⟩ : S102), (⟨8252, 8252, 14⟩ : S102), (⟨8265, 8265, 14⟩ : S102), (⟨8288, 8303, 3⟩ : S102), (⟨8400, 8432, 4⟩ : S102), (⟨8482, 8482, 14⟩ : S102), (⟨8505, 8505, 14⟩ : S102), (⟨8596, 8601, 14⟩ : S102), (⟨8986, 8987, 14⟩ : S102), (⟨9728, 9732, 14⟩ : S102), (⟨9745, 9745, 14⟩ : S102), (⟨9748, 9749, 14⟩ : S102), (⟨9786, 9786, 14⟩ : S102), (⟨9829, 9829, 14⟩ : S102), (⟨9889, 9889, 14⟩ : S102), (⟨9989, 9989, 14⟩ : S102), (⟨10084, 10084, 14⟩ : S102), (⟨12441, 12442, 4⟩ : S102), (⟨65024, 65039, 4⟩ : S102), (⟨65279, 65279, 3⟩ : S102), (⟨127462, 127487, 6⟩ : S102), (⟨127744, 127994, 14⟩ : S102), (⟨127995, 127999, 4⟩ : S102), (⟨128000, 128591, 14⟩ : S102), (⟨128640, 128767, 14⟩ : S102), (⟨129280, 129535, 14⟩ : S102)] : List (S102)))
set_option maxHeartbeats 8000000 in
set_option maxRecDepth 100000 in
theorem prop_kinds.calls  (r : List (S102)) (w : World) (h : prop_kinds.f  = some r) :
    Calls Try.prog 76 #[] w fun e w' => ∃ v0_ : Value, e = .returned (v0_) ∧ Kd.R k102 102 w' w.heap.size (fun _ => True) v0_ r ∧ Below w.heap.size w w' := by
  have hu102 := Try.underlying102
  have HB := Aside0.mk (Below.refl w.heap.size w)
  have H : (some (([(⟨0, 9, 3⟩ : S102), (⟨10, 10, 2⟩ : S102), (⟨11, 12, 3⟩ : S102), (⟨13, 13, 1⟩ : S102), (⟨14, 31, 3⟩ : S102), (⟨127, 159, 3⟩ : S102), (⟨169, 169, 14⟩ : S102), (⟨173, 173, 3⟩ : S102), (⟨174, 174, 14⟩ : S102), (⟨768, 879, 4⟩ : S102), (⟨1536, 1541, 7⟩ : S102), (⟨1564, 1564, 3⟩ : S102), (⟨1611, 1631, 4⟩ : S102), (⟨1757, 1757, 7⟩ : S102), (⟨2307, 2307, 8⟩ : S102), (⟨2363, 2363, 8⟩ : S102), (⟨2364, 2364, 4⟩ : S102), (⟨2366, 2368, 8⟩ : S102), (⟨2377, 2380, 8⟩ : S102), (⟨2381, 2381, 4⟩ : S102), (⟨4352, 4447, 9⟩ : S102), (⟨4448, 4519, 10⟩ : S102), (⟨4520, 4607, 11⟩ : S102), (⟨8203, 8203, 3⟩ : S102), (⟨8204, 8204, 4⟩ : S102), (⟨8205, 8205, 5⟩ : S102), (⟨8206, 8207, 3⟩ : S102), (⟨8232, 8238, 3⟩ : S102), (⟨8252, 8252, 14⟩ : S102), (⟨8265, 8265, 14⟩ : S102), (⟨8288, 8303, 3⟩ : S102), (⟨8400, 8432, 4⟩ : S102), (⟨8482, 8482, 14⟩ : S102), (⟨8505, 8505, 14⟩ : S102), (⟨8596, 8601, 14⟩ : S102), (⟨8986, 8987, 14⟩ : S102), (⟨9728, 9732, 14⟩ : S102), (⟨9745, 9745, 14⟩ : S102), (⟨9748, 9749, 14⟩ : S102), (⟨9786, 9786, 14⟩ : S102), (⟨9829, 9829, 14⟩ : S102), (⟨9889, 9889, 14⟩ : S102), (⟨9989, 9989, 14⟩ : S102), (⟨10084, 10084, 14⟩ : S102), (⟨12441, 12442, 4⟩ : S102), (⟨65024, 65039, 4⟩ : S102), (⟨65279, 65279, 3⟩ : S102), (⟨127462, 127487, 6⟩ : S102), (⟨127744, 127994, 14⟩ : S102), (⟨127995, 127999, 4⟩ : S102), (⟨128000, 128591, 14⟩ : S102), (⟨128640, 128767, 14⟩ : S102), (⟨129280, 129535, 14⟩ : S102)] : List (S102)))) = some r := h
  clear h
  obtain ⟨y359, hy359⟩ : ∃ y_ : List (S102), y_ = (([(⟨0, 9, 3⟩ : S102), (⟨10, 10, 2⟩ : S102), (⟨11, 12, 3⟩ : S102), (⟨13, 13, 1⟩ : S102), (⟨14, 31, 3⟩ : S102), (⟨127, 159, 3⟩ : S102), (⟨169, 169, 14⟩ : S102), (⟨173, 173, 3⟩ : S102), (⟨174, 174, 14⟩ : S102), (⟨768, 879, 4⟩ : S102), (⟨1536, 1541, 7⟩ : S102), (⟨1564, 1564, 3⟩ : S102), (⟨1611, 1631, 4⟩ : S102), (⟨1757, 1757, 7⟩ : S102), (⟨2307, 2307, 8⟩ : S102), (⟨2363, 2363, 8⟩ : S102), (⟨2364, 2364, 4⟩ : S102), (⟨2366, 2368, 8⟩ : S102), (⟨2377, 2380, 8⟩ : S102), (⟨2381, 2381, 4⟩ : S102), (⟨4352, 4447, 9⟩ : S102), (⟨4448, 4519, 10⟩ : S102), (⟨4520, 4607, 11⟩ : S102), (⟨8203, 8203, 3⟩ : S102), (⟨8204, 8204, 4⟩ : S102), (⟨8205, 8205, 5⟩ : S102), (⟨8206, 8207, 3⟩ : S102), (⟨8232, 8238, 3⟩ : S102), (⟨8252, 8252, 14⟩ : S102), (⟨8265, 8265, 14⟩ : S102), (⟨8288, 8303, 3⟩ : S102), (⟨8400, 8432, 4⟩ : S102), (⟨8482, 8482, 14⟩ : S102), (⟨8505, 8505, 14⟩ : S102), (⟨8596, 8601, 14⟩ : S102), (⟨8986, 8987, 14⟩ : S102), (⟨9728, 9732, 14⟩ : S102), (⟨9745, 9745, 14⟩ : S102), (⟨9748, 9749, 14⟩ : S102), (⟨9786, 9786, 14⟩ : S102), (⟨9829, 9829, 14⟩ : S102), (⟨9889, 9889, 14⟩ : S102), (⟨9989, 9989, 14⟩ : S102), (⟨10084, 10084, 14⟩ : S102), (⟨12441, 12442, 4⟩ : S102), (⟨65024, 65039, 4⟩ : S102), (⟨65279, 65279, 3⟩ : S102), (⟨127462, 127487, 6⟩ : S102), (⟨127744, 127994, 14⟩ : S102), (⟨127995, 127999, 4⟩ : S102), (⟨128000, 128591, 14⟩ : S102), (⟨128640, 128767, 14⟩ : S102), (⟨129280, 129535, 14⟩ : S102)] : List (S102))) := ⟨_, rfl⟩
  replace H : (some y359) = some r := by first | (rw [hy359]; with_reducible exact H) | (have H2_ := (Option.bind_some _ _).symm.trans H; rw [hy359]; with_reducible exact H2_) | (have H2_ := (Option.bind_some _ _).symm.trans H; with_reducible exact H2_) | with_reducible exact H | (rw [hy359]; exact H) | exact H
  have Ny359 := Aside0.mk hy359
  clear hy359
  obtain rfl := Option.some.inj H
  go_enter Try.func76, Try.ntmps76
  go_wp2_with (first | ((with_reducible refine gate_dst (N := 54) rfl ?_); refine Kd.R_lit k102 _ 102 ?hg (N := 54) ?hd (xs := ([(⟨0, 9, 3⟩ : S102), (⟨10, 10, 2⟩ : S102), (⟨11, 12, 3⟩ : S102), (⟨13, 13, 1⟩ : S102), (⟨14, 31, 3⟩ : S102), (⟨127, 159, 3⟩ : S102), (⟨169, 169, 14⟩ : S102), (⟨173, 173, 3⟩ : S102), (⟨174, 174, 14⟩ : S102), (⟨768, 879, 4⟩ : S102), (⟨1536, 1541, 7⟩ : S102), (⟨1564, 1564, 3⟩ : S102), (⟨1611, 1631, 4⟩ : S102), (⟨1757, 1757, 7⟩ : S102), (⟨2307, 2307, 8⟩ : S102), (⟨2363, 2363, 8⟩ : S102), (⟨2364, 2364, 4⟩ : S102), (⟨2366, 2368, 8⟩ : S102), (⟨2377, 2380, 8⟩ : S102), (⟨2381, 2381, 4⟩ : S102), (⟨4352, 4447, 9⟩ : S102), (⟨4448, 4519, 10⟩ : S102), (⟨4520, 4607, 11⟩ : S102), (⟨8203, 8203, 3⟩ : S102), (⟨8204, 8204, 4⟩ : S102), (⟨8205, 8205, 5⟩ : S102), (⟨8206, 8207, 3⟩ : S102), (⟨8232, 8238, 3⟩ : S102), (⟨8252, 8252, 14⟩ : S102), (⟨8265, 8265, 14⟩ : S102), (⟨8288, 8303, 3⟩ : S102), (⟨8400, 8432, 4⟩ : S102), (⟨8482, 8482, 14⟩ : S102), (⟨8505, 8505, 14⟩ : S102), (⟨8596, 8601, 14⟩ : S102), (⟨8986, 8987, 14⟩ : S102), (⟨9728, 9732, 14⟩ : S102), (⟨9745, 9745, 14⟩ : S102), (⟨9748, 9749, 14⟩ : S102), (⟨9786, 9786, 14⟩ : S102), (⟨9829, 9829, 14⟩ : S102), (⟨9889, 9889, 14⟩ : S102), (⟨9989, 9989, 14⟩ : S102), (⟨10084, 10084, 14⟩ : S102), (⟨12441, 12442, 4⟩ : S102), (⟨65024, 65039, 4⟩ : S102), (⟨65279, 65279, 3⟩ : S102), (⟨127462, 127487, 6⟩ : S102), (⟨127744, 127994, 14⟩ : S102), (⟨127995, 127999, 4⟩ : S102), (⟨128000, 128591, 14⟩ : S102), (⟨128640, 128767, 14⟩ : S102), (⟨129280, 129535, 14⟩ : S102)] : List (S102))) (inner := [.int .i64 0, .int .i64 9, .int .i64 3, .int .i64 10, .int .i64 10, .int .i64 2, .int .i64 11, .int .i64 12, .int .i64 3, .int .i64 13, .int .i64 13, .int .i64 1, .int .i64 14, .int .i64 31, .int .i64 3, .int .i64 127, .int .i64 159, .int .i64 3, .int .i64 169, .int .i64 169, .int .i64 14, .int .i64 173, .int .i64 173, .int .i64 3, .int .i64 174, .int .i64 174, .int .i64 14, .int .i64 768, .int .i64 879, .int .i64 4, .int .i64 1536, .int .i64 1541, .int .i64 7, .int .i64 1564, .int .i64 1564, .int .i64 3, .int .i64 1611, .int .i64 1631, .int .i64 4, .int .i64 1757, .int .i64 1757, .int .i64 7, .int .i64 2307, .int .i64 2307, .int .i64 8, .int .i64 2363, .int .i64 2363, .int .i64 8, .int .i64 2364, .int .i64 2364, .int .i64 4, .int .i64 2366, .int .i64 2368, .int .i64 8, .int .i64 2377, .int .i64 2380, .int .i64 8, .int .i64 2381, .int .i64 2381, .int .i64 4, .int .i64 4352, .int .i64 4447, .int .i64 9, .int .i64 4448, .int .i64 4519, .int .i64 10, .int .i64 4520, .int .i64 4607, .int .i64 11, .int .i64 8203, .int .i64 8203, .int .i64 3, .int .i64 8204, .int .i64 8204, .int .i64 4, .int .i64 8205, .int .i64 8205, .int .i64 5, .int .i64 8206, .int .i64 8207, .int .i64 3, .int .i64 8232, .int .i64 8238, .int .i64 3, .int .i64 8252, .int .i64 8252, .int .i64 14, .int .i64 8265, .int .i64 8265, .int .i64 14, .int .i64 8288, .int .i64 8303, .int .i64 3, .int .i64 8400, .int .i64 8432, .int .i64 4, .int .i64 8482, .int .i64 8482, .int .i64 14, .int .i64 8505, .int .i64 8505, .int .i64 14, .int .i64 8596, .int .i64 8601, .int .i64 14, .int .i64 8986, .int .i64 8987, .int .i64 14, .int .i64 9728, .int .i64 9732, .int .i64 14, .int .i64 9745, .int .i64 9745, .int .i64 14, .int .i64 9748, .int .i64 9749, .int .i64 14, .int .i64 9786, .int .i64 9786, .int .i64 14, .int .i64 9829, .int .i64 9829, .int .i64 14, .int .i64 9889, .int .i64 9889, .int .i64 14, .int .i64 9989, .int .i64 9989, .int .i64 14, .int .i64 10084, .int .i64 10084, .int .i64 14, .int .i64 12441, .int .i64 12442, .int .i64 4, .int .i64 65024, .int .i64 65039, .int .i64 4, .int .i64 65279, .int .i64 65279, .int .i64 3, .int .i64 127462, .int .i64 127487, .int .i64 6, .int .i64 127744, .int .i64 127994, .int .i64 14, .int .i64 127995, .int .i64 127999, .int .i64 4, .int .i64 128000, .int .i64 128591, .int .i64 14, .int .i64 128640, .int .i64 128767, .int .i64 14, .int .i64 129280, .int .i64 129535, .int .i64 14]) (ok := fun _ => True) (okp := fun _ => True) ?hr ?hp (fun _ hk => hk) trivial (Below.refl _ _) (Nat.le_refl _) (by simp) ?_; (case hd => rfl); (case hg => rfl); (case hr => first | kernel_rfl | (go_simp; done) | (go_simp; rfl)); (case hp => exact (Reps.c3 (show Kd.M k102 _ _ _ (⟨0, 9, 3⟩ : S102) [.int .i64 0, .int .i64 9, .int .i64 3] from (k102_mkM _ _ _ (⟨0, 9, 3⟩ : S102) )) (Reps.c3 (show Kd.M k102 _ _ _ (⟨10, 10, 2⟩ : S102) [.int .i64 10, .int .i64 10, .int .i64 2] from (k102_mkM _ _ _ (⟨10, 10, 2⟩ : S102) )) (Reps.c3 (show Kd.M k102 _ _ _ (⟨11, 12, 3⟩ : S102) [.int .i64 11, .int .i64 12, .int .i64 3] from (k102_mkM _ _ _ (⟨11, 12, 3⟩ : S102) )) (Reps.c3 (show Kd.M k102 _ _ _ (⟨13, 13, 1⟩ : S102) [.int .i64 13, .int .i64 13, .int .i64 1] from (k102_mkM _ _ _ (⟨13, 13, 1⟩ : S102) )) (Reps.c3 (show Kd.M k102 _ _ _ (⟨14, 31, 3⟩ : S102) [.int .i64 14, .int .i64 31, .int .i64 3] from (k102_mkM _ _ _ (⟨14, 31, 3⟩ : S102) )) (Reps.c3 (show Kd.M k102 _ _ _ (⟨127, 159, 3⟩ : S102) [.int .i64 127, .int .i64 159, .int .i64 3] from (k102_mkM _ _ _ (⟨127, 159, 3⟩ : S102) )) (Reps.c3 (show Kd.M k102 _ _ _ (⟨169, 169, 14⟩ : S102) [.int .i64 169, .int .i64 169, .int .i64 14] from (k102_mkM _ _ _ (⟨169, 169, 14⟩ : S102) )) (Reps.c3 (show Kd.M k102 _ _ _ (⟨173, 173, 3⟩ : S102) [.int .i64 173, .int .i64 173, .int .i64 3] from (k102_mkM _ _ _ (⟨173, 173, 3⟩ : S102) )) (Reps.c3 (show Kd.M k102 _ _ _ (⟨174, 174, 14⟩ : S102) [.int .i64 174, .int .i64 174, .int .i64 14] from (k102_mkM _ _ _ (⟨174, 174, 14⟩ : S102) )) (Reps.c3 (show Kd.M k102 _ _ _ (⟨768, 879, 4⟩ : S102) [.int .i64 768, .int .i64 879, .int .i64 4] from (k102_mkM _ _ _ (⟨768, 879, 4⟩ : S102) )) (Reps.c3 (show Kd.M k102 _ _ _ (⟨1536, 1541, 7⟩ : S102) [.int .i64 1536, .int .i64 1541, .int .i64 7] from (k102_mkM _ _ _ (⟨1536, 1541, 7⟩ : S102) )) (Reps.c3 (show Kd.M k102 _ _ _ (⟨1564, 1564, 3⟩ : S102) [.int .i64 1564, .int .i64 1564, .int .i64 3] from (k102_mkM _ _ _ (⟨1564, 1564, 3⟩ : S102) )) (Reps.c3 (show Kd.M k102 _ _ _ (⟨1611, 1631, 4⟩ : S102) [.int .i64 1611, .int .i64 1631, .int .i64 4] from (k102_mkM _ _ _ (⟨1611, 1631, 4⟩ : S102) )) (Reps.c3 (show Kd.M k102 _ _ _ (⟨1757, 1757, 7⟩ : S102) [.int .i64 1757, .int .i64 1757, .int .i64 7] from (k102_mkM _ _ _ (⟨1757, 1757, 7⟩ : S102) )) (Reps.c3 (show Kd.M k102 _ _ _ (⟨2307, 2307, 8⟩ : S102) [.int .i64 2307, .int .i64 2307, .int .i64 8] from (k102_mkM _ _ _ (⟨2307, 2307, 8⟩ : S102) )) (Reps.c3 (show Kd.M k102 _ _ _ (⟨2363, 2363, 8⟩ : S102) [.int .i64 2363, .int .i64 2363, .int .i64 8] from (k102_mkM _ _ _ (⟨2363, 2363, 8⟩ : S102) )) (Reps.c3 (show Kd.M k102 _ _ _ (⟨2364, 2364, 4⟩ : S102) [.int .i64 2364, .int .i64 2364, .int .i64 4] from (k102_mkM _ _ _ (⟨2364, 2364, 4⟩ : S102) )) (Reps.c3 (show Kd.M k102 _ _ _ (⟨2366, 2368, 8⟩ : S102) [.int .i64 2366, .int .i64 2368, .int .i64 8] from (k102_mkM _ _ _ (⟨2366, 2368, 8⟩ : S102) )) (Reps.c3 (show Kd.M k102 _ _ _ (⟨2377, 2380, 8⟩ : S102) [.int .i64 2377, .int .i64 2380, .int .i64 8] from (k102_mkM _ _ _ (⟨2377, 2380, 8⟩ : S102) )) (Reps.c3 (show Kd.M k102 _ _ _ (⟨2381, 2381, 4⟩ : S102) [.int .i64 2381, .int .i64 2381, .int .i64 4] from (k102_mkM _ _ _ (⟨2381, 2381, 4⟩ : S102) )) (Reps.c3 (show Kd.M k102 _ _ _ (⟨4352, 4447, 9⟩ : S102) [.int .i64 4352, .int .i64 4447, .int .i64 9] from (k102_mkM _ _ _ (⟨4352, 4447, 9⟩ : S102) )) (Reps.c3 (show Kd.M k102 _ _ _ (⟨4448, 4519, 10⟩ : S102) [.int .i64 4448, .int .i64 4519, .int .i64 10] from (k102_mkM _ _ _ (⟨4448, 4519, 10⟩ : S102) )) (Reps.c3 (show Kd.M k102 _ _ _ (⟨4520, 4607, 11⟩ : S102) [.int .i64 4520, .int .i64 4607, .int .i64 11] from (k102_mkM _ _ _ (⟨4520, 4607, 11⟩ : S102) )) (Reps.c3 (show Kd.M k102 _ _ _ (⟨8203, 8203, 3⟩ : S102) [.int .i64 8203, .int .i64 8203, .int .i64 3] from (k102_mkM _ _ _ (⟨8203, 8203, 3⟩ : S102) )) (Reps.c3 (show Kd.M k102 _ _ _ (⟨8204, 8204, 4⟩ : S102) [.int .i64 8204, .int .i64 8204, .int .i64 4] from (k102_mkM _ _ _ (⟨8204, 8204, 4⟩ : S102) )) (Reps.c3 (show Kd.M k102 _ _ _ (⟨8205, 8205, 5⟩ : S102) [.int .i64 8205, .int .i64 8205, .int .i64 5] from (k102_mkM _ _ _ (⟨8205, 8205, 5⟩ : S102) )) (Reps.c3 (show Kd.M k102 _ _ _ (⟨8206, 8207, 3⟩ : S102) [.int .i64 8206, .int .i64 8207, .int .i64 3] from (k102_mkM _ _ _ (⟨8206, 8207, 3⟩ : S102) )) (Reps.c3 (show Kd.M k102 _ _ _ (⟨8232, 8238, 3⟩ : S102) [.int .i64 8232, .int .i64 8238, .int .i64 3] from (k102_mkM _ _ _ (⟨8232, 8238, 3⟩ : S102) )) (Reps.c3 (show Kd.M k102 _ _ _ (⟨8252, 8252, 14⟩ : S102) [.int .i64 8252, .int .i64 8252, .int .i64 14] from (k102_mkM _ _ _ (⟨8252, 8252, 14⟩ : S102) )) (Reps.c3 (show Kd.M k102 _ _ _ (⟨8265, 8265, 14⟩ : S102) [.int .i64 8265, .int .i64 8265, .int .i64 14] from (k102_mkM _ _ _ (⟨8265, 8265, 14⟩ : S102) )) (Reps.c3 (show Kd.M k102 _ _ _ (⟨8288, 8303, 3⟩ : S102) [.int .i64 8288, .int .i64 8303, .int .i64 3] from (k102_mkM _ _ _ (⟨8288, 8303, 3⟩ : S102) )) (Reps.c3 (show Kd.M k102 _ _ _ (⟨8400, 8432, 4⟩ : S102) [.int .i64 8400, .int .i64 8432, .int .i64 4] from (k102_mkM _ _ _ (⟨8400, 8432, 4⟩ : S102) )) (Reps.c3 (show Kd.M k102 _ _ _ (⟨8482, 8482, 14⟩ : S102) [.int .i64 8482, .int .i64 8482, .int .i64 14] from (k102_mkM _ _ _ (⟨8482, 8482, 14⟩ : S102) )) (Reps.c3 (show Kd.M k102 _ _ _ (⟨8505, 8505, 14⟩ : S102) [.int .i64 8505, .int .i64 8505, .int .i64 14] from (k102_mkM _ _ _ (⟨8505, 8505, 14⟩ : S102) )) (Reps.c3 (show Kd.M k102 _ _ _ (⟨8596, 8601, 14⟩ : S102) [.int .i64 8596, .int .i64 8601, .int .i64 14] from (k102_mkM _ _ _ (⟨8596, 8601, 14⟩ : S102) )) (Reps.c3 (show Kd.M k102 _ _ _ (⟨8986, 8987, 14⟩ : S102) [.int .i64 8986, .int .i64 8987, .int .i64 14] from (k102_mkM _ _ _ (⟨8986, 8987, 14⟩ : S102) )) (Reps.c3 (show Kd.M k102 _ _ _ (⟨9728, 9732, 14⟩ : S102) [.int .i64 9728, .int .i64 9732, .int .i64 14] from (k102_mkM _ _ _ (⟨9728, 9732, 14⟩ : S102) )) (Reps.c3 (show Kd.M k102 _ _ _ (⟨9745, 9745, 14⟩ : S102) [.int .i64 9745, .int .i64 9745, .int .i64 14] from (k102_mkM _ _ _ (⟨9745, 9745, 14⟩ : S102) )) (Reps.c3 (show Kd.M k102 _ _ _ (⟨9748, 9749, 14⟩ : S102) [.int .i64 9748, .int .i64 9749, .int .i64 14] from (k102_mkM _ _ _ (⟨9748, 9749, 14⟩ : S102) )) (Reps.c3 (show Kd.M k102 _ _ _ (⟨9786, 9786, 14⟩ : S102) [.int .i64 9786, .int .i64 9786, .int .i64 14] from (k102_mkM _ _ _ (⟨9786, 9786, 14⟩ : S102) )) (Reps.c3 (show Kd.M k102 _ _ _ (⟨9829, 9829, 14⟩ : S102) [.int .i64 9829, .int .i64 9829, .int .i64 14] from (k102_mkM _ _ _ (⟨9829, 9829, 14⟩ : S102) )) (Reps.c3 (show Kd.M k102 _ _ _ (⟨9889, 9889, 14⟩ : S102) [.int .i64 9889, .int .i64 9889, .int .i64 14] from (k102_mkM _ _ _ (⟨9889, 9889, 14⟩ : S102) )) (Reps.c3 (show Kd.M k102 _ _ _ (⟨9989, 9989, 14⟩ : S102) [.int .i64 9989, .int .i64 9989, .int .i64 14] from (k102_mkM _ _ _ (⟨9989, 9989, 14⟩ : S102) )) (Reps.c3 (show Kd.M k102 _ _ _ (⟨10084, 10084, 14⟩ : S102) [.int .i64 10084, .int .i64 10084, .int .i64 14] from (k102_mkM _ _ _ (⟨10084, 10084, 14⟩ : S102) )) (Reps.c3 (show Kd.M k102 _ _ _ (⟨12441, 12442, 4⟩ : S102) [.int .i64 12441, .int .i64 12442, .int .i64 4] from (k102_mkM _ _ _ (⟨12441, 12442, 4⟩ : S102) )) (Reps.c3 (show Kd.M k102 _ _ _ (⟨65024, 65039, 4⟩ : S102) [.int .i64 65024, .int .i64 65039, .int .i64 4] from (k102_mkM _ _ _ (⟨65024, 65039, 4⟩ : S102) )) (Reps.c3 (show Kd.M k102 _ _ _ (⟨65279, 65279, 3⟩ : S102) [.int .i64 65279, .int .i64 65279, .int .i64 3] from (k102_mkM _ _ _ (⟨65279, 65279, 3⟩ : S102) )) (Reps.c3 (show Kd.M k102 _ _ _ (⟨127462, 127487, 6⟩ : S102) [.int .i64 127462, .int .i64 127487, .int .i64 6] from (k102_mkM _ _ _ (⟨127462, 127487, 6⟩ : S102) )) (Reps.c3 (show Kd.M k102 _ _ _ (⟨127744, 127994, 14⟩ : S102) [.int .i64 127744, .int .i64 127994, .int .i64 14] from (k102_mkM _ _ _ (⟨127744, 127994, 14⟩ : S102) )) (Reps.c3 (show Kd.M k102 _ _ _ (⟨127995, 127999, 4⟩ : S102) [.int .i64 127995, .int .i64 127999, .int .i64 4] from (k102_mkM _ _ _ (⟨127995, 127999, 4⟩ : S102) )) (Reps.c3 (show Kd.M k102 _ _ _ (⟨128000, 128591, 14⟩ : S102) [.int .i64 128000, .int .i64 128591, .int .i64 14] from (k102_mkM _ _ _ (⟨128000, 128591, 14⟩ : S102) )) (Reps.c3 (show Kd.M k102 _ _ _ (⟨128640, 128767, 14⟩ : S102) [.int .i64 128640, .int .i64 128767, .int .i64 14] from (k102_mkM _ _ _ (⟨128640, 128767, 14⟩ : S102) )) (Reps.c3 (show Kd.M k102 _ _ _ (⟨129280, 129535, 14⟩ : S102) [.int .i64 129280, .int .i64 129535, .int .i64 14] from (k102_mkM _ _ _ (⟨129280, 129535, 14⟩ : S102) )) (Reps.none _ _))))))))))))))))))))))))))))))))))))))))))))))))))))))); intro v360 w1 ho2 hb hg_ hnew_; clear hg_ hnew_; (first | rw [← Ny359.out] at ho2 | (simp only [Int.reduceToNat] at ho2; rw [← Ny359.out] at ho2)); have n0_ := Aside0.mk (Kd.R_lower ho2 (below_size (by repeat (first | (with_reducible first | exact HB.out | apply below_alloc | apply pw_below_drewN | apply below_drew1) | exact HB.out)))); have n1_ := Aside0.mk (below_step (by repeat (first | (with_reducible first | exact HB.out | apply below_alloc | apply pw_below_drewN | apply below_drew1) | exact HB.out)) hb); clear HB; have HO361 := n0_; have HB := n1_; clear n0_ n1_; clear hb ho2))
  go_ret
  exact ⟨_, by first | rfl | (simp [errW_none, errW_some] <;> rfl) | (simp [*, errW_none, errW_some] <;> rfl), by (with_reducible repeat (first | apply Kd.R_alloc | apply Kd.R_drewN | apply Kd.R_drew)); exact HO361.out, by repeat (first | (with_reducible first | exact HB.out | apply below_alloc | apply pw_below_drewN | apply below_drew1) | exact HB.out)⟩

end Go.Proofs.Ytcabijajjceghaa.G
