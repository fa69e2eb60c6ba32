-- PRINTED by print.py (a twelfth state) out of the translation. Not trusted: Lean checks it.
import Derived.Test.YtcabijajjceghaaG0
import Derived.Test.YtcabijajjceghaaG16
import Derived.Test.YtcabijajjceghaaG18
import Derived.Test.YtcabijajjceghaaG19
namespace Go.Proofs.Ytcabijajjceghaa.G
open Go.RowKit Go.Proofs.YtcabijajjceghaaW.PrintWords Go.Proofs.YtcabijajjceghaaW.PrintLast Go.Proofs.YtcabijajjceghaaW.PrintMore
attribute [local go_sem] max2_int min2_int max_two min_two max_three min_three max_four min_four   -- for this text's walks alone
set_option linter.unusedVariables false
set_option linter.unusedSimpArgs false

/-! ### pentroughref11_Ends: function 57 -/
mutual
def pentroughref11_Ends.j0 : Nat → Int → Bool → Bool → Int → Bool → Bool → Option (Bool)
  | 0, _, _, _, _, _, _ => none
  | k + 1, x1, x13, x468000, x468001, x468002, x468003 => if x13 = true then (some false) else ((pentroughref03_Gcb.f k x1).bind fun t469 => (if x468001 = 1 then (pentroughref11_Ends.j1 k t469 (t469 == 2) x468000 x468001 x468002 x468003) else (pentroughref11_Ends.j1 k t469 false x468000 x468001 x468002 x468003)))
def pentroughref11_Ends.j1 : Nat → Int → Bool → Bool → Int → Bool → Bool → Option (Bool)
  | 0, _, _, _, _, _, _ => none
  | k + 1, x5, x22, x468000, x468001, x468002, x468003 => if x22 = true then (some false) else (if x468001 ≥ 1 then (if x468001 ≤ 3 then (pentroughref11_Ends.j2 k x5 true x468000 x468001 x468002 x468003) else (if x5 ≥ 1 then (pentroughref11_Ends.j2 k x5 (decide (x5 ≤ 3)) x468000 x468001 x468002 x468003) else (pentroughref11_Ends.j2 k x5 false x468000 x468001 x468002 x468003))) else (if x5 ≥ 1 then (pentroughref11_Ends.j2 k x5 (decide (x5 ≤ 3)) x468000 x468001 x468002 x468003) else (pentroughref11_Ends.j2 k x5 false x468000 x468001 x468002 x468003)))
def pentroughref11_Ends.j2 : Nat → Int → Bool → Bool → Int → Bool → Bool → Option (Bool)
  | 0, _, _, _, _, _, _ => none
  | k + 1, x5, x38, x468000, x468001, x468002, x468003 => if x38 = true then (some true) else ((pentroughref11_stays.f k x468001 x5).bind fun t470 => (if t470 = true then (some false) else (if x468001 = 5 then (if x468002 = true then (if x5 = 14 then (some false) else (if x468001 = 6 then (if x468003 = true then (if x5 = 6 then (some false) else (some true)) else (some true)) else (some true))) else (if x468001 = 6 then (if x468003 = true then (if x5 = 6 then (some false) else (some true)) else (some true)) else (some true))) else (if x468001 = 6 then (if x468003 = true then (if x5 = 6 then (some false) else (some true)) else (some true)) else (some true)))))
end
def pentroughref11_Ends.f (k : Nat) (a0_0 : Bool) (a0_1 : Int) (a0_2 : Bool) (a0_3 : Bool) (a1 : Int) : Option (Bool) := (pentroughref11_Sane.f a0_0 a0_1 a0_2 a0_3).bind fun t468 => (if t468 = true then (pentroughref11_Ends.j0 k a1 (!a0_0) a0_0 a0_1 a0_2 a0_3) else (pentroughref11_Ends.j0 k a1 true a0_0 a0_1 a0_2 a0_3))
theorem pentroughref11_Ends.mono_l : ∀ k, (∀ y0 y1 y2 y3 y4 y5, LeO (pentroughref11_Ends.j0 k y0 y1 y2 y3 y4 y5) (pentroughref11_Ends.j0 (k + 1) y0 y1 y2 y3 y4 y5)) ∧ (∀ y0 y1 y2 y3 y4 y5, LeO (pentroughref11_Ends.j1 k y0 y1 y2 y3 y4 y5) (pentroughref11_Ends.j1 (k + 1) y0 y1 y2 y3 y4 y5)) ∧ (∀ y0 y1 y2 y3 y4 y5, LeO (pentroughref11_Ends.j2 k y0 y1 y2 y3 y4 y5) (pentroughref11_Ends.j2 (k + 1) y0 y1 y2 y3 y4 y5))
  | 0 => ⟨fun _ _ _ _ _ _ r h => by simp [pentroughref11_Ends.j0] at h, fun _ _ _ _ _ _ r h => by simp [pentroughref11_Ends.j1] at h, fun _ _ _ _ _ _ r h => by simp [pentroughref11_Ends.j2] at h⟩
  | k + 1 => by
    obtain ⟨ih0, ih1, ih2⟩ := pentroughref11_Ends.mono_l k
    refine ⟨?_, ?_, ?_⟩
    · intro y0 y1 y2 y3 y4 y5
      unfold pentroughref11_Ends.j0
      repeat' first
      | (with_reducible exact ih0 _ _ _ _ _ _)
      | (with_reducible exact ih1 _ _ _ _ _ _)
      | (with_reducible exact ih2 _ _ _ _ _ _)
      | (with_reducible exact pentroughref03_Gcb.mono _ _)
      | (with_reducible exact pentroughref11_stays.mono _ _ _)
      | (with_reducible exact LeO.refl _)
      | (with_reducible exact LeO.none _)
      | (with_reducible refine LeO.ite ?_ ?_)
      | (with_reducible refine LeO.bind ?_ (fun _ => ?_))
      | exact ih0 _ _ _ _ _ _
      | exact ih1 _ _ _ _ _ _
      | exact ih2 _ _ _ _ _ _
      | exact pentroughref03_Gcb.mono _ _
      | exact pentroughref11_stays.mono _ _ _
      | exact LeO.none _
      | refine LeO.ite ?_ ?_
      | refine LeO.bind ?_ (fun _ => ?_)
    · intro y0 y1 y2 y3 y4 y5
      unfold pentroughref11_Ends.j1
      repeat' first
      | (with_reducible exact ih0 _ _ _ _ _ _)
      | (with_reducible exact ih1 _ _ _ _ _ _)
      | (with_reducible exact ih2 _ _ _ _ _ _)
      | (with_reducible exact pentroughref03_Gcb.mono _ _)
      | (with_reducible exact pentroughref11_stays.mono _ _ _)
      | (with_reducible exact LeO.refl _)
      | (with_reducible exact LeO.none _)
      | (with_reducible refine LeO.ite ?_ ?_)
      | (with_reducible refine LeO.bind ?_ (fun _ => ?_))
      | exact ih0 _ _ _ _ _ _
      | exact ih1 _ _ _ _ _ _
      | exact ih2 _ _ _ _ _ _
      | exact pentroughref03_Gcb.mono _ _
      | exact pentroughref11_stays.mono _ _ _
      | exact LeO.none _
      | refine LeO.ite ?_ ?_
      | refine LeO.bind ?_ (fun _ => ?_)
    · intro y0 y1 y2 y3 y4 y5
      unfold pentroughref11_Ends.j2
      repeat' first
      | (with_reducible exact ih0 _ _ _ _ _ _)
      | (with_reducible exact ih1 _ _ _ _ _ _)
      | (with_reducible exact ih2 _ _ _ _ _ _)
      | (with_reducible exact pentroughref03_Gcb.mono _ _)
      | (with_reducible exact pentroughref11_stays.mono _ _ _)
      | (with_reducible exact LeO.refl _)
      | (with_reducible exact LeO.none _)
      | (with_reducible refine LeO.ite ?_ ?_)
      | (with_reducible refine LeO.bind ?_ (fun _ => ?_))
      | exact ih0 _ _ _ _ _ _
      | exact ih1 _ _ _ _ _ _
      | exact ih2 _ _ _ _ _ _
      | exact pentroughref03_Gcb.mono _ _
      | exact pentroughref11_stays.mono _ _ _
      | exact LeO.none _
      | refine LeO.ite ?_ ?_
      | refine LeO.bind ?_ (fun _ => ?_)
theorem pentroughref11_Ends.mono : ∀ a0 a1 a2 a3 a4 k, LeO (pentroughref11_Ends.f k a0 a1 a2 a3 a4) (pentroughref11_Ends.f (k + 1) a0 a1 a2 a3 a4) := by
  intro a0 a1 a2 a3 a4 k
  obtain ⟨ih0, ih1, ih2⟩ := pentroughref11_Ends.mono_l k
  unfold pentroughref11_Ends.f
  repeat' first
      | (with_reducible exact ih0 _ _ _ _ _ _)
      | (with_reducible exact ih1 _ _ _ _ _ _)
      | (with_reducible exact ih2 _ _ _ _ _ _)
      | (with_reducible exact pentroughref03_Gcb.mono _ _)
      | (with_reducible exact pentroughref11_stays.mono _ _ _)
      | (with_reducible exact LeO.refl _)
      | (with_reducible exact LeO.none _)
      | (with_reducible refine LeO.ite ?_ ?_)
      | (with_reducible refine LeO.bind ?_ (fun _ => ?_))
      | exact ih0 _ _ _ _ _ _
      | exact ih1 _ _ _ _ _ _
      | exact ih2 _ _ _ _ _ _
      | exact pentroughref03_Gcb.mono _ _
      | exact pentroughref11_stays.mono _ _ _
      | exact LeO.none _
      | refine LeO.ite ?_ ?_
      | refine LeO.bind ?_ (fun _ => ?_)
set_option maxHeartbeats 8000000 in
set_option maxRecDepth 100000 in
theorem pentroughref11_Ends.calls (k : Nat) (a0_0 : Bool) (a0_1 : Int) (a0_2 : Bool) (a0_3 : Bool) (a1 : Int) (r : Bool) (w : World) (h : pentroughref11_Ends.f k a0_0 a0_1 a0_2 a0_3 a1 = some r) :
    Calls Try.prog 57 #[.agg #[.bool a0_0, .int .i64 a0_1, .bool a0_2, .bool a0_3], .int .i64 a1] w fun e w' => e = .returned (.bool r) ∧ Below w.heap.size w w' := by
  have hu46 := Try.underlying46
  have HB := Aside0.mk (Below.refl w.heap.size w)
  have H : ((pentroughref11_Sane.f a0_0 a0_1 a0_2 a0_3).bind fun t468 => (if t468 = true then (pentroughref11_Ends.j0 k a1 (!a0_0) a0_0 a0_1 a0_2 a0_3) else (pentroughref11_Ends.j0 k a1 true a0_0 a0_1 a0_2 a0_3))) = some r := h
  clear h
  have HC3 := Aside0.mk H
  clear H
  go_enter Try.func57, Try.ntmps57
  go_upto_region 1 with (first | ((with_reducible refine gate_dst (N := 2) rfl ?_); refine box_event ?hg (N := 2) ?hd (cs := #[.bool a0_0, .int .i64 a0_1, .bool a0_2, .bool a0_3]) (t := 46) ?hr ?_; (case hd => rfl); (case hg => rfl); (case hr => first | (go_simp; done) | (go_simp; rfl)); intro gb467 hg w4 hbox hb; have n0_ := Aside0.mk (below_step (by repeat (first | (with_reducible first | exact HB.out | apply below_alloc | apply pw_below_drewN | apply below_drew1) | exact HB.out)) hb); have n1_ := Aside0.mk (hbox); have n2_ := Aside0.mk ((by rw [hg]; exact (below_size (by repeat (first | (with_reducible first | exact HB.out | apply below_alloc | apply pw_below_drewN | apply below_drew1) | exact HB.out))) : w.heap.size ≤ gb467)); have n3_ := Aside0.mk ((by rw [hg]; exact (below_size (by repeat (first | (with_reducible first | exact HB.out | apply below_alloc | apply pw_below_drewN | apply below_drew1) | exact HB.out))) : w.heap.size ≤ gb467)); clear HB; have HB := n0_; have BK467 := n1_; have GW467 := n2_; have GE467 := n3_; clear n0_ n1_ n2_ n3_; clear hb hbox hg))
  (try simp only [Act.put, List.setIfInBounds_toArray, List.set_cons_zero, List.set_cons_succ])
  go_cut [13] (fun v13 wc => ∃ (kq : Nat) (x13_2 : Bool), v13 = .bool x13_2 ∧ Aside0 (pentroughref11_Ends.j0 kq a1 x13_2 a0_0 a0_1 a0_2 a0_3 = some r) ∧ Aside0 (kq ≤ k) ∧ Aside0 (wc.heap[gb467]? = some (.cells #[.bool a0_0, .int .i64 a0_1, .bool a0_2, .bool a0_3] 46 (0, 0))) ∧ Aside0 (Below w.heap.size w wc))
  case first =>
    have H := HC3.out
    clear HC3
    replace H := Option.bind_eq_some_iff.mp H
    obtain ⟨t468, A50, H⟩ := H
    replace H : (if t468 = true then (pentroughref11_Ends.j0 k a1 (!a0_0) a0_0 a0_1 a0_2 a0_3) else (pentroughref11_Ends.j0 k a1 true a0_0 a0_1 a0_2 a0_3)) = some r := H
    have A5 := Aside0.mk A50
    clear A50
    by_cases c6 : t468 = true
    · subst c6
      have H1 : (pentroughref11_Ends.j0 k a1 (!a0_0) a0_0 a0_1 a0_2 a0_3) = some r := by rw [if_pos rfl] at H; exact H
      clear H
      have H := H1
      clear H1
      have H' := Aside0.mk H
      clear H
      have hcz7_0 : w4.cell? ⟨gb467, 0, none⟩ = some (.bool a0_0) := (blk_cell BK467.out 0).trans rfl
      have hcz7_1 : w4.cell? ⟨gb467, 1, none⟩ = some (.int .i64 a0_1) := (blk_cell BK467.out 1).trans rfl
      have hcz7_2 : w4.cell? ⟨gb467, 2, none⟩ = some (.bool a0_2) := (blk_cell BK467.out 2).trans rfl
      have hcz7_3 : w4.cell? ⟨gb467, 3, none⟩ = some (.bool a0_3) := (blk_cell BK467.out 3).trans rfl
      have hfz7_0 := blk_frozen BK467.out 0
      have hfz7_1 := blk_frozen BK467.out 1
      have hfz7_2 := blk_frozen BK467.out 2
      have hfz7_3 := blk_frozen BK467.out 3
      go_wp2_with (first | ((with_reducible refine gate_callee (f := 58) rfl ?_); refine goesL_ (some 7) rfl rfl Try.func58 (by kernel_rfl) rfl #[.agg #[.bool a0_0, .int .i64 a0_1, .bool a0_2, .bool a0_3]] rfl (by (try simp only [List.map_toArray, List.map_cons, List.map_nil]); first | done | rfl | (simp only [List.length_drop, List.length_take]; rfl)) ?_; (with_reducible refine (pentroughref11_Sane.calls a0_0 a0_1 a0_2 a0_3 true _ A5.out).mono ?_); rintro e w8 ⟨rfl, hb⟩; refine ⟨_, rfl, ?_⟩; have n0_ := Aside0.mk (blk_below (g := gb467) (o := .cells #[.bool a0_0, .int .i64 a0_1, .bool a0_2, .bool a0_3] 46 (0, 0)) (by (with_reducible repeat (first | refine blk_drewN ?_ _ | refine blk_drew ?_ | refine blk_alloc ?_ _)); exact BK467.out) hb); have n1_ := Aside0.mk (below_step (by repeat (first | (with_reducible first | exact HB.out | apply below_alloc | apply pw_below_drewN | apply below_drew1 | refine below_set ?_ GE467.out) | exact HB.out)) hb); clear BK467; clear HB; have BK467 := n0_; have HB := n1_; clear n0_ n1_; (try clear hb); (try clear hb2); (try clear hk); (try clear hi); have hcz9_0 : w8.cell? ⟨gb467, 0, none⟩ = some (.bool a0_0) := (blk_cell BK467.out 0).trans rfl; have hcz9_1 : w8.cell? ⟨gb467, 1, none⟩ = some (.int .i64 a0_1) := (blk_cell BK467.out 1).trans rfl; have hcz9_2 : w8.cell? ⟨gb467, 2, none⟩ = some (.bool a0_2) := (blk_cell BK467.out 2).trans rfl; have hcz9_3 : w8.cell? ⟨gb467, 3, none⟩ = some (.bool a0_3) := (blk_cell BK467.out 3).trans rfl; have hfz9_0 := blk_frozen BK467.out 0; have hfz9_1 := blk_frozen BK467.out 1; have hfz9_2 := blk_frozen BK467.out 2; have hfz9_3 := blk_frozen BK467.out 3))
      go_meet
      case rel => exact ⟨_, (!a0_0), (by first | rfl | (simp; done) | (simp [*]; done)), H', ⟨by first | omega | exact Nat.le_refl _⟩, ⟨by (with_reducible repeat (first | refine blk_drewN ?_ _ | refine blk_drew ?_ | refine blk_alloc ?_ _)); exact BK467.out⟩, ⟨by repeat (first | (with_reducible first | exact HB.out | apply below_alloc | apply pw_below_drewN | apply below_drew1 | refine below_set ?_ GE467.out) | exact HB.out)⟩⟩
    · replace c6 := Bool.eq_false_iff.mpr c6
      subst c6
      have H1 : (pentroughref11_Ends.j0 k a1 true a0_0 a0_1 a0_2 a0_3) = some r := by rw [if_neg (show ¬ (false = true) by decide)] at H; exact H
      clear H
      have H := H1
      clear H1
      have H' := Aside0.mk H
      clear H
      have hcz10_0 : w4.cell? ⟨gb467, 0, none⟩ = some (.bool a0_0) := (blk_cell BK467.out 0).trans rfl
      have hcz10_1 : w4.cell? ⟨gb467, 1, none⟩ = some (.int .i64 a0_1) := (blk_cell BK467.out 1).trans rfl
      have hcz10_2 : w4.cell? ⟨gb467, 2, none⟩ = some (.bool a0_2) := (blk_cell BK467.out 2).trans rfl
      have hcz10_3 : w4.cell? ⟨gb467, 3, none⟩ = some (.bool a0_3) := (blk_cell BK467.out 3).trans rfl
      have hfz10_0 := blk_frozen BK467.out 0
      have hfz10_1 := blk_frozen BK467.out 1
      have hfz10_2 := blk_frozen BK467.out 2
      have hfz10_3 := blk_frozen BK467.out 3
      go_wp2_with (first | ((with_reducible refine gate_callee (f := 58) rfl ?_); refine goesL_ (some 7) rfl rfl Try.func58 (by kernel_rfl) rfl #[.agg #[.bool a0_0, .int .i64 a0_1, .bool a0_2, .bool a0_3]] rfl (by (try simp only [List.map_toArray, List.map_cons, List.map_nil]); first | done | rfl | (simp only [List.length_drop, List.length_take]; rfl)) ?_; (with_reducible refine (pentroughref11_Sane.calls a0_0 a0_1 a0_2 a0_3 false _ A5.out).mono ?_); rintro e w11 ⟨rfl, hb⟩; refine ⟨_, rfl, ?_⟩; have n0_ := Aside0.mk (blk_below (g := gb467) (o := .cells #[.bool a0_0, .int .i64 a0_1, .bool a0_2, .bool a0_3] 46 (0, 0)) (by (with_reducible repeat (first | refine blk_drewN ?_ _ | refine blk_drew ?_ | refine blk_alloc ?_ _)); exact BK467.out) hb); have n1_ := Aside0.mk (below_step (by repeat (first | (with_reducible first | exact HB.out | apply below_alloc | apply pw_below_drewN | apply below_drew1 | refine below_set ?_ GE467.out) | exact HB.out)) hb); clear BK467; clear HB; have BK467 := n0_; have HB := n1_; clear n0_ n1_; (try clear hb); (try clear hb2); (try clear hk); (try clear hi)))
      go_meet
      case rel => exact ⟨_, (true), (by first | rfl | (simp; done) | (simp [*]; done)), H', ⟨by first | omega | exact Nat.le_refl _⟩, ⟨by (with_reducible repeat (first | refine blk_drewN ?_ _ | refine blk_drew ?_ | refine blk_alloc ?_ _)); exact BK467.out⟩, ⟨by repeat (first | (with_reducible first | exact HB.out | apply below_alloc | apply pw_below_drewN | apply below_drew1 | refine below_set ?_ GE467.out) | exact HB.out)⟩⟩
  case rest =>
    clear HC3
    try clear p2
    try clear c5
    try clear c6
    try clear hcz10_0
    try clear hcz10_1
    try clear hcz10_2
    try clear hcz10_3
    try clear hcz7_0
    try clear hcz7_1
    try clear hcz7_2
    try clear hcz7_3
    try clear hcz9_0
    try clear hcz9_1
    try clear hcz9_2
    try clear hcz9_3
    try clear hfz10_0
    try clear hfz10_1
    try clear hfz10_2
    try clear hfz10_3
    try clear hfz7_0
    try clear hfz7_1
    try clear hfz7_2
    try clear hfz7_3
    try clear hfz9_0
    try clear hfz9_1
    try clear hfz9_2
    try clear hfz9_3
    obtain ⟨kq, x13_2, rfl, HA, HJ2, BK467, HB⟩ := hcut
    cases kq with
    | zero => exact absurd HA.out (by simp [pentroughref11_Ends.j0])
    | succ kj2 =>
      have H := HA.out
      clear HA
      simp only [pentroughref11_Ends.j0] at H
      by_cases c12 : x13_2 = true
      · subst c12
        have H1 : (some false) = some r := by rw [if_pos rfl] at H; exact H
        clear H
        have H := H1
        clear H1
        obtain rfl := Option.some.inj H
        go_wp2
        go_ret
        exact ⟨by first | rfl | (simp [errW_none, errW_some] <;> rfl) | (simp [*, errW_none, errW_some] <;> rfl), by repeat (first | (with_reducible first | exact HB.out | apply below_alloc | apply pw_below_drewN | apply below_drew1 | refine below_set ?_ GE467.out) | exact HB.out)⟩
      · replace c12 := Bool.eq_false_iff.mpr c12
        subst c12
        have H1 : ((pentroughref03_Gcb.f kj2 a1).bind fun t469 => (if a0_1 = 1 then (pentroughref11_Ends.j1 kj2 t469 (t469 == 2) a0_0 a0_1 a0_2 a0_3) else (pentroughref11_Ends.j1 kj2 t469 false a0_0 a0_1 a0_2 a0_3))) = some r := by rw [if_neg (show ¬ (false = true) by decide)] at H; exact H
        clear H
        have H := H1
        clear H1
        replace H := Option.bind_eq_some_iff.mp H
        obtain ⟨t469, A130, H⟩ := H
        replace H : (if a0_1 = 1 then (pentroughref11_Ends.j1 kj2 t469 (t469 == 2) a0_0 a0_1 a0_2 a0_3) else (pentroughref11_Ends.j1 kj2 t469 false a0_0 a0_1 a0_2 a0_3)) = some r := H
        have A13 := Aside0.mk A130
        clear A130
        have HC14 := Aside0.mk H
        clear H
        go_upto_region 4 with (first | ((with_reducible refine gate_callee (f := 68) rfl ?_); refine goesL_ (some 15) rfl rfl Try.func68 (by kernel_rfl) rfl #[.int .i64 a1] rfl (by (try simp only [List.map_toArray, List.map_cons, List.map_nil]); first | done | rfl | (simp only [List.length_drop, List.length_take]; rfl)) ?_; (with_reducible refine (pentroughref03_Gcb.calls kj2 a1 t469 _ A13.out).mono ?_); rintro e w15 ⟨rfl, hb⟩; refine ⟨_, rfl, ?_⟩; have n0_ := Aside0.mk (blk_below (g := gb467) (o := .cells #[.bool a0_0, .int .i64 a0_1, .bool a0_2, .bool a0_3] 46 (0, 0)) (by (with_reducible repeat (first | refine blk_drewN ?_ _ | refine blk_drew ?_ | refine blk_alloc ?_ _)); exact BK467.out) hb); have n1_ := Aside0.mk (below_step (by repeat (first | (with_reducible first | exact HB.out | apply below_alloc | apply pw_below_drewN | apply below_drew1 | refine below_set ?_ GE467.out) | exact HB.out)) hb); clear BK467; clear HB; have BK467 := n0_; have HB := n1_; clear n0_ n1_; (try clear hb); (try clear hb2); (try clear hk); (try clear hi)))
        (try simp only [Act.put, List.setIfInBounds_toArray, List.set_cons_zero, List.set_cons_succ])
        go_cut [22] (fun v22 wc => ∃ (kq : Nat) (x22_13 : Bool), v22 = .bool x22_13 ∧ Aside0 (pentroughref11_Ends.j1 kq t469 x22_13 a0_0 a0_1 a0_2 a0_3 = some r) ∧ Aside0 (kq ≤ kj2) ∧ Aside0 (wc.heap[gb467]? = some (.cells #[.bool a0_0, .int .i64 a0_1, .bool a0_2, .bool a0_3] 46 (0, 0))) ∧ Aside0 (Below w.heap.size w wc))
        case first =>
          have H := HC14.out
          clear HC14
          by_cases c16 : a0_1 = 1
          · rw [if_pos c16] at H
            have c16b0 : (a0_1 == 1) = true := beq_iff_eq.mpr c16
            have c16b1 : (a0_1 != 1) = false := bne_eq_false_iff_eq.mpr c16
            clear c16
            (first | rw [c16b0] | (simp only [i64_w, i32_w]; rw [c16b0]) | skip)
            have H' := Aside0.mk H
            clear H
            have hcz17_0 : w15.cell? ⟨gb467, 0, none⟩ = some (.bool a0_0) := (blk_cell BK467.out 0).trans rfl
            have hcz17_1 : w15.cell? ⟨gb467, 1, none⟩ = some (.int .i64 a0_1) := (blk_cell BK467.out 1).trans rfl
            have hcz17_2 : w15.cell? ⟨gb467, 2, none⟩ = some (.bool a0_2) := (blk_cell BK467.out 2).trans rfl
            have hcz17_3 : w15.cell? ⟨gb467, 3, none⟩ = some (.bool a0_3) := (blk_cell BK467.out 3).trans rfl
            have hfz17_0 := blk_frozen BK467.out 0
            have hfz17_1 := blk_frozen BK467.out 1
            have hfz17_2 := blk_frozen BK467.out 2
            have hfz17_3 := blk_frozen BK467.out 3
            go_wp2
            go_meet
            case rel => exact ⟨_, ((t469 == 2)), (by first | rfl | (simp; done) | (simp [*]; done)), H', ⟨by have := HJ2.out; first | omega | exact Nat.le_refl _⟩, ⟨by (with_reducible repeat (first | refine blk_drewN ?_ _ | refine blk_drew ?_ | refine blk_alloc ?_ _)); exact BK467.out⟩, ⟨by repeat (first | (with_reducible first | exact HB.out | apply below_alloc | apply pw_below_drewN | apply below_drew1 | refine below_set ?_ GE467.out) | exact HB.out)⟩⟩
          · rw [if_neg c16] at H
            have c16b0 : (a0_1 == 1) = false := beq_eq_false_iff_ne.mpr c16
            have c16b1 : (a0_1 != 1) = true := bne_iff_ne.mpr c16
            (first | rw [c16b0] | (simp only [i64_w, i32_w]; rw [c16b0]) | skip)
            have H' := Aside0.mk H
            clear H
            have hcz18_0 : w15.cell? ⟨gb467, 0, none⟩ = some (.bool a0_0) := (blk_cell BK467.out 0).trans rfl
            have hcz18_1 : w15.cell? ⟨gb467, 1, none⟩ = some (.int .i64 a0_1) := (blk_cell BK467.out 1).trans rfl
            have hcz18_2 : w15.cell? ⟨gb467, 2, none⟩ = some (.bool a0_2) := (blk_cell BK467.out 2).trans rfl
            have hcz18_3 : w15.cell? ⟨gb467, 3, none⟩ = some (.bool a0_3) := (blk_cell BK467.out 3).trans rfl
            have hfz18_0 := blk_frozen BK467.out 0
            have hfz18_1 := blk_frozen BK467.out 1
            have hfz18_2 := blk_frozen BK467.out 2
            have hfz18_3 := blk_frozen BK467.out 3
            go_wp2
            go_meet
            case rel => exact ⟨_, (false), (by first | rfl | (simp; done) | (simp [*]; done)), H', ⟨by have := HJ2.out; first | omega | exact Nat.le_refl _⟩, ⟨by (with_reducible repeat (first | refine blk_drewN ?_ _ | refine blk_drew ?_ | refine blk_alloc ?_ _)); exact BK467.out⟩, ⟨by repeat (first | (with_reducible first | exact HB.out | apply below_alloc | apply pw_below_drewN | apply below_drew1 | refine below_set ?_ GE467.out) | exact HB.out)⟩⟩
        case rest =>
          clear HC14
          try clear c1
          try clear p2
          try clear c5
          try clear c6
          try clear c12
          try clear c16
          try clear c16b0
          try clear c16b1
          try clear hcz10_0
          try clear hcz10_1
          try clear hcz10_2
          try clear hcz10_3
          try clear hcz17_0
          try clear hcz17_1
          try clear hcz17_2
          try clear hcz17_3
          try clear hcz18_0
          try clear hcz18_1
          try clear hcz18_2
          try clear hcz18_3
          try clear hcz7_0
          try clear hcz7_1
          try clear hcz7_2
          try clear hcz7_3
          try clear hcz9_0
          try clear hcz9_1
          try clear hcz9_2
          try clear hcz9_3
          try clear hfz10_0
          try clear hfz10_1
          try clear hfz10_2
          try clear hfz10_3
          try clear hfz17_0
          try clear hfz17_1
          try clear hfz17_2
          try clear hfz17_3
          try clear hfz18_0
          try clear hfz18_1
          try clear hfz18_2
          try clear hfz18_3
          try clear hfz7_0
          try clear hfz7_1
          try clear hfz7_2
          try clear hfz7_3
          try clear hfz9_0
          try clear hfz9_1
          try clear hfz9_2
          try clear hfz9_3
          try clear p2
          obtain ⟨kq, x22_13, rfl, HA, HJ13, BK467, HB⟩ := hcut
          cases kq with
          | zero => exact absurd HA.out (by simp [pentroughref11_Ends.j1])
          | succ kj13 =>
            have H := HA.out
            clear HA
            simp only [pentroughref11_Ends.j1] at H
            by_cases c19 : x22_13 = true
            · subst c19
              have H1 : (some false) = some r := by rw [if_pos rfl] at H; exact H
              clear H
              have H := H1
              clear H1
              obtain rfl := Option.some.inj H
              go_wp2
              go_ret
              exact ⟨by first | rfl | (simp [errW_none, errW_some] <;> rfl) | (simp [*, errW_none, errW_some] <;> rfl), by repeat (first | (with_reducible first | exact HB.out | apply below_alloc | apply pw_below_drewN | apply below_drew1 | refine below_set ?_ GE467.out) | exact HB.out)⟩
            · replace c19 := Bool.eq_false_iff.mpr c19
              subst c19
              have H1 : (if a0_1 ≥ 1 then (if a0_1 ≤ 3 then (pentroughref11_Ends.j2 kj13 t469 true a0_0 a0_1 a0_2 a0_3) else (if t469 ≥ 1 then (pentroughref11_Ends.j2 kj13 t469 (decide (t469 ≤ 3)) a0_0 a0_1 a0_2 a0_3) else (pentroughref11_Ends.j2 kj13 t469 false a0_0 a0_1 a0_2 a0_3))) else (if t469 ≥ 1 then (pentroughref11_Ends.j2 kj13 t469 (decide (t469 ≤ 3)) a0_0 a0_1 a0_2 a0_3) else (pentroughref11_Ends.j2 kj13 t469 false a0_0 a0_1 a0_2 a0_3))) = some r := by rw [if_neg (show ¬ (false = true) by decide)] at H; exact H
              clear H
              have H := H1
              clear H1
              have HC20 := Aside0.mk H
              clear H
              go_upto_region 6 with (fail)
              go_cut [38] (fun v38 wc => ∃ (kq : Nat) (x38_19 : Bool), v38 = .bool x38_19 ∧ Aside0 (pentroughref11_Ends.j2 kq t469 x38_19 a0_0 a0_1 a0_2 a0_3 = some r) ∧ Aside0 (kq ≤ kj13) ∧ Aside0 (wc.heap[gb467]? = some (.cells #[.bool a0_0, .int .i64 a0_1, .bool a0_2, .bool a0_3] 46 (0, 0))) ∧ Aside0 (Below w.heap.size w wc))
              case first =>
                have H := HC20.out
                clear HC20
                by_cases c21 : a0_1 ≥ 1
                · rw [if_pos c21] at H
                  have c21b0 : decide (1 ≤ a0_1) = true := decide_eq_true c21
                  clear c21
                  (first | rw [c21b0] | (simp only [i64_w, i32_w]; rw [c21b0]) | skip)
                  by_cases c22 : a0_1 ≤ 3
                  · rw [if_pos c22] at H
                    have c22b0 : decide (a0_1 ≤ 3) = true := decide_eq_true c22
                    clear c22
                    have H' := Aside0.mk H
                    clear H
                    have hcz23_0 : wc.cell? ⟨gb467, 0, none⟩ = some (.bool a0_0) := (blk_cell BK467.out 0).trans rfl
                    have hcz23_1 : wc.cell? ⟨gb467, 1, none⟩ = some (.int .i64 a0_1) := (blk_cell BK467.out 1).trans rfl
                    have hcz23_2 : wc.cell? ⟨gb467, 2, none⟩ = some (.bool a0_2) := (blk_cell BK467.out 2).trans rfl
                    have hcz23_3 : wc.cell? ⟨gb467, 3, none⟩ = some (.bool a0_3) := (blk_cell BK467.out 3).trans rfl
                    have hfz23_0 := blk_frozen BK467.out 0
                    have hfz23_1 := blk_frozen BK467.out 1
                    have hfz23_2 := blk_frozen BK467.out 2
                    have hfz23_3 := blk_frozen BK467.out 3
                    go_wp2
                    go_meet
                    case rel => exact ⟨_, (true), (by first | rfl | (simp; done) | (simp [*]; done)), H', ⟨by have := HJ2.out; have := HJ13.out; first | omega | exact Nat.le_refl _⟩, ⟨by (with_reducible repeat (first | refine blk_drewN ?_ _ | refine blk_drew ?_ | refine blk_alloc ?_ _)); exact BK467.out⟩, ⟨by repeat (first | (with_reducible first | exact HB.out | apply below_alloc | apply pw_below_drewN | apply below_drew1 | refine below_set ?_ GE467.out) | exact HB.out)⟩⟩
                  · rw [if_neg c22] at H
                    have c22b0 : decide (a0_1 ≤ 3) = false := decide_eq_false c22
                    clear c22
                    by_cases c24 : t469 ≥ 1
                    · rw [if_pos c24] at H
                      have c24b0 : decide (1 ≤ t469) = true := decide_eq_true c24
                      clear c24
                      have H' := Aside0.mk H
                      clear H
                      have hcz25_0 : wc.cell? ⟨gb467, 0, none⟩ = some (.bool a0_0) := (blk_cell BK467.out 0).trans rfl
                      have hcz25_1 : wc.cell? ⟨gb467, 1, none⟩ = some (.int .i64 a0_1) := (blk_cell BK467.out 1).trans rfl
                      have hcz25_2 : wc.cell? ⟨gb467, 2, none⟩ = some (.bool a0_2) := (blk_cell BK467.out 2).trans rfl
                      have hcz25_3 : wc.cell? ⟨gb467, 3, none⟩ = some (.bool a0_3) := (blk_cell BK467.out 3).trans rfl
                      have hfz25_0 := blk_frozen BK467.out 0
                      have hfz25_1 := blk_frozen BK467.out 1
                      have hfz25_2 := blk_frozen BK467.out 2
                      have hfz25_3 := blk_frozen BK467.out 3
                      go_wp2
                      go_meet
                      case rel => exact ⟨_, (decide (t469 ≤ 3)), (by first | rfl | (simp; done) | (simp [*]; done)), H', ⟨by have := HJ2.out; have := HJ13.out; first | omega | exact Nat.le_refl _⟩, ⟨by (with_reducible repeat (first | refine blk_drewN ?_ _ | refine blk_drew ?_ | refine blk_alloc ?_ _)); exact BK467.out⟩, ⟨by repeat (first | (with_reducible first | exact HB.out | apply below_alloc | apply pw_below_drewN | apply below_drew1 | refine below_set ?_ GE467.out) | exact HB.out)⟩⟩
                    · rw [if_neg c24] at H
                      have c24b0 : decide (1 ≤ t469) = false := decide_eq_false c24
                      clear c24
                      have H' := Aside0.mk H
                      clear H
                      have hcz26_0 : wc.cell? ⟨gb467, 0, none⟩ = some (.bool a0_0) := (blk_cell BK467.out 0).trans rfl
                      have hcz26_1 : wc.cell? ⟨gb467, 1, none⟩ = some (.int .i64 a0_1) := (blk_cell BK467.out 1).trans rfl
                      have hcz26_2 : wc.cell? ⟨gb467, 2, none⟩ = some (.bool a0_2) := (blk_cell BK467.out 2).trans rfl
                      have hcz26_3 : wc.cell? ⟨gb467, 3, none⟩ = some (.bool a0_3) := (blk_cell BK467.out 3).trans rfl
                      have hfz26_0 := blk_frozen BK467.out 0
                      have hfz26_1 := blk_frozen BK467.out 1
                      have hfz26_2 := blk_frozen BK467.out 2
                      have hfz26_3 := blk_frozen BK467.out 3
                      go_wp2
                      go_meet
                      case rel => exact ⟨_, (false), (by first | rfl | (simp; done) | (simp [*]; done)), H', ⟨by have := HJ2.out; have := HJ13.out; first | omega | exact Nat.le_refl _⟩, ⟨by (with_reducible repeat (first | refine blk_drewN ?_ _ | refine blk_drew ?_ | refine blk_alloc ?_ _)); exact BK467.out⟩, ⟨by repeat (first | (with_reducible first | exact HB.out | apply below_alloc | apply pw_below_drewN | apply below_drew1 | refine below_set ?_ GE467.out) | exact HB.out)⟩⟩
                · rw [if_neg c21] at H
                  have c21b0 : decide (1 ≤ a0_1) = false := decide_eq_false c21
                  clear c21
                  (first | rw [c21b0] | (simp only [i64_w, i32_w]; rw [c21b0]) | skip)
                  by_cases c27 : t469 ≥ 1
                  · rw [if_pos c27] at H
                    have c27b0 : decide (1 ≤ t469) = true := decide_eq_true c27
                    clear c27
                    have H' := Aside0.mk H
                    clear H
                    have hcz28_0 : wc.cell? ⟨gb467, 0, none⟩ = some (.bool a0_0) := (blk_cell BK467.out 0).trans rfl
                    have hcz28_1 : wc.cell? ⟨gb467, 1, none⟩ = some (.int .i64 a0_1) := (blk_cell BK467.out 1).trans rfl
                    have hcz28_2 : wc.cell? ⟨gb467, 2, none⟩ = some (.bool a0_2) := (blk_cell BK467.out 2).trans rfl
                    have hcz28_3 : wc.cell? ⟨gb467, 3, none⟩ = some (.bool a0_3) := (blk_cell BK467.out 3).trans rfl
                    have hfz28_0 := blk_frozen BK467.out 0
                    have hfz28_1 := blk_frozen BK467.out 1
                    have hfz28_2 := blk_frozen BK467.out 2
                    have hfz28_3 := blk_frozen BK467.out 3
                    go_wp2
                    go_meet
                    case rel => exact ⟨_, (decide (t469 ≤ 3)), (by first | rfl | (simp; done) | (simp [*]; done)), H', ⟨by have := HJ2.out; have := HJ13.out; first | omega | exact Nat.le_refl _⟩, ⟨by (with_reducible repeat (first | refine blk_drewN ?_ _ | refine blk_drew ?_ | refine blk_alloc ?_ _)); exact BK467.out⟩, ⟨by repeat (first | (with_reducible first | exact HB.out | apply below_alloc | apply pw_below_drewN | apply below_drew1 | refine below_set ?_ GE467.out) | exact HB.out)⟩⟩
                  · rw [if_neg c27] at H
                    have c27b0 : decide (1 ≤ t469) = false := decide_eq_false c27
                    clear c27
                    have H' := Aside0.mk H
                    clear H
                    have hcz29_0 : wc.cell? ⟨gb467, 0, none⟩ = some (.bool a0_0) := (blk_cell BK467.out 0).trans rfl
                    have hcz29_1 : wc.cell? ⟨gb467, 1, none⟩ = some (.int .i64 a0_1) := (blk_cell BK467.out 1).trans rfl
                    have hcz29_2 : wc.cell? ⟨gb467, 2, none⟩ = some (.bool a0_2) := (blk_cell BK467.out 2).trans rfl
                    have hcz29_3 : wc.cell? ⟨gb467, 3, none⟩ = some (.bool a0_3) := (blk_cell BK467.out 3).trans rfl
                    have hfz29_0 := blk_frozen BK467.out 0
                    have hfz29_1 := blk_frozen BK467.out 1
                    have hfz29_2 := blk_frozen BK467.out 2
                    have hfz29_3 := blk_frozen BK467.out 3
                    go_wp2
                    go_meet
                    case rel => exact ⟨_, (false), (by first | rfl | (simp; done) | (simp [*]; done)), H', ⟨by have := HJ2.out; have := HJ13.out; first | omega | exact Nat.le_refl _⟩, ⟨by (with_reducible repeat (first | refine blk_drewN ?_ _ | refine blk_drew ?_ | refine blk_alloc ?_ _)); exact BK467.out⟩, ⟨by repeat (first | (with_reducible first | exact HB.out | apply below_alloc | apply pw_below_drewN | apply below_drew1 | refine below_set ?_ GE467.out) | exact HB.out)⟩⟩
              case rest =>
                clear HC20
                try clear c1
                try clear c2
                try clear p2
                try clear c5
                try clear c6
                try clear c12
                try clear c16
                try clear c16b0
                try clear c16b1
                try clear c19
                try clear c21
                try clear c21b0
                try clear c22
                try clear c22b0
                try clear c24
                try clear c24b0
                try clear c27
                try clear c27b0
                try clear hcz10_0
                try clear hcz10_1
                try clear hcz10_2
                try clear hcz10_3
                try clear hcz17_0
                try clear hcz17_1
                try clear hcz17_2
                try clear hcz17_3
                try clear hcz18_0
                try clear hcz18_1
                try clear hcz18_2
                try clear hcz18_3
                try clear hcz23_0
                try clear hcz23_1
                try clear hcz23_2
                try clear hcz23_3
                try clear hcz25_0
                try clear hcz25_1
                try clear hcz25_2
                try clear hcz25_3
                try clear hcz26_0
                try clear hcz26_1
                try clear hcz26_2
                try clear hcz26_3
                try clear hcz28_0
                try clear hcz28_1
                try clear hcz28_2
                try clear hcz28_3
                try clear hcz29_0
                try clear hcz29_1
                try clear hcz29_2
                try clear hcz29_3
                try clear hcz7_0
                try clear hcz7_1
                try clear hcz7_2
                try clear hcz7_3
                try clear hcz9_0
                try clear hcz9_1
                try clear hcz9_2
                try clear hcz9_3
                try clear hfz10_0
                try clear hfz10_1
                try clear hfz10_2
                try clear hfz10_3
                try clear hfz17_0
                try clear hfz17_1
                try clear hfz17_2
                try clear hfz17_3
                try clear hfz18_0
                try clear hfz18_1
                try clear hfz18_2
                try clear hfz18_3
                try clear hfz23_0
                try clear hfz23_1
                try clear hfz23_2
                try clear hfz23_3
                try clear hfz25_0
                try clear hfz25_1
                try clear hfz25_2
                try clear hfz25_3
                try clear hfz26_0
                try clear hfz26_1
                try clear hfz26_2
                try clear hfz26_3
                try clear hfz28_0
                try clear hfz28_1
                try clear hfz28_2
                try clear hfz28_3
                try clear hfz29_0
                try clear hfz29_1
                try clear hfz29_2
                try clear hfz29_3
                try clear hfz7_0
                try clear hfz7_1
                try clear hfz7_2
                try clear hfz7_3
                try clear hfz9_0
                try clear hfz9_1
                try clear hfz9_2
                try clear hfz9_3
                try clear p2
                obtain ⟨kq, x38_19, rfl, HA, HJ19, BK467, HB⟩ := hcut
                cases kq with
                | zero => exact absurd HA.out (by simp [pentroughref11_Ends.j2])
                | succ kj19 =>
                  have H := HA.out
                  clear HA
                  simp only [pentroughref11_Ends.j2] at H
                  by_cases c30 : x38_19 = true
                  · subst c30
                    have H1 : (some true) = some r := by rw [if_pos rfl] at H; exact H
                    clear H
                    have H := H1
                    clear H1
                    obtain rfl := Option.some.inj H
                    go_wp2
                    go_ret
                    exact ⟨by first | rfl | (simp [errW_none, errW_some] <;> rfl) | (simp [*, errW_none, errW_some] <;> rfl), by repeat (first | (with_reducible first | exact HB.out | apply below_alloc | apply pw_below_drewN | apply below_drew1 | refine below_set ?_ GE467.out) | exact HB.out)⟩
                  · replace c30 := Bool.eq_false_iff.mpr c30
                    subst c30
                    have H1 : ((pentroughref11_stays.f kj19 a0_1 t469).bind fun t470 => (if t470 = true then (some false) else (if a0_1 = 5 then (if a0_2 = true then (if t469 = 14 then (some false) else (if a0_1 = 6 then (if a0_3 = true then (if t469 = 6 then (some false) else (some true)) else (some true)) else (some true))) else (if a0_1 = 6 then (if a0_3 = true then (if t469 = 6 then (some false) else (some true)) else (some true)) else (some true))) else (if a0_1 = 6 then (if a0_3 = true then (if t469 = 6 then (some false) else (some true)) else (some true)) else (some true))))) = some r := by rw [if_neg (show ¬ (false = true) by decide)] at H; exact H
                    clear H
                    have H := H1
                    clear H1
                    replace H := Option.bind_eq_some_iff.mp H
                    obtain ⟨t470, A310, H⟩ := H
                    replace H : (if t470 = true then (some false) else (if a0_1 = 5 then (if a0_2 = true then (if t469 = 14 then (some false) else (if a0_1 = 6 then (if a0_3 = true then (if t469 = 6 then (some false) else (some true)) else (some true)) else (some true))) else (if a0_1 = 6 then (if a0_3 = true then (if t469 = 6 then (some false) else (some true)) else (some true)) else (some true))) else (if a0_1 = 6 then (if a0_3 = true then (if t469 = 6 then (some false) else (some true)) else (some true)) else (some true)))) = some r := H
                    have A31 := Aside0.mk A310
                    clear A310
                    by_cases c32 : t470 = true
                    · subst c32
                      have H1 : (some false) = some r := by rw [if_pos rfl] at H; exact H
                      clear H
                      have H := H1
                      clear H1
                      obtain rfl := Option.some.inj H
                      have hcz33_0 : wc.cell? ⟨gb467, 0, none⟩ = some (.bool a0_0) := (blk_cell BK467.out 0).trans rfl
                      have hcz33_1 : wc.cell? ⟨gb467, 1, none⟩ = some (.int .i64 a0_1) := (blk_cell BK467.out 1).trans rfl
                      have hcz33_2 : wc.cell? ⟨gb467, 2, none⟩ = some (.bool a0_2) := (blk_cell BK467.out 2).trans rfl
                      have hcz33_3 : wc.cell? ⟨gb467, 3, none⟩ = some (.bool a0_3) := (blk_cell BK467.out 3).trans rfl
                      have hfz33_0 := blk_frozen BK467.out 0
                      have hfz33_1 := blk_frozen BK467.out 1
                      have hfz33_2 := blk_frozen BK467.out 2
                      have hfz33_3 := blk_frozen BK467.out 3
                      go_wp2_with (first | ((with_reducible refine gate_callee (f := 69) rfl ?_); refine goesL_ (some 42) rfl rfl Try.func69 (by kernel_rfl) rfl #[.int .i64 a0_1, .int .i64 t469] rfl (by (try simp only [List.map_toArray, List.map_cons, List.map_nil]); first | done | rfl | (simp only [List.length_drop, List.length_take]; rfl)) ?_; (with_reducible refine (pentroughref11_stays.calls kj19 a0_1 t469 true _ A31.out).mono ?_); rintro e w' ⟨rfl, ⟨nd, rfl⟩⟩; refine ⟨_, rfl, ?_⟩))
                      go_ret
                      exact ⟨by first | rfl | (simp [errW_none, errW_some] <;> rfl) | (simp [*, errW_none, errW_some] <;> rfl), by repeat (first | (with_reducible first | exact HB.out | apply below_alloc | apply pw_below_drewN | apply below_drew1 | refine below_set ?_ GE467.out) | exact HB.out)⟩
                    · replace c32 := Bool.eq_false_iff.mpr c32
                      subst c32
                      have H1 : (if a0_1 = 5 then (if a0_2 = true then (if t469 = 14 then (some false) else (if a0_1 = 6 then (if a0_3 = true then (if t469 = 6 then (some false) else (some true)) else (some true)) else (some true))) else (if a0_1 = 6 then (if a0_3 = true then (if t469 = 6 then (some false) else (some true)) else (some true)) else (some true))) else (if a0_1 = 6 then (if a0_3 = true then (if t469 = 6 then (some false) else (some true)) else (some true)) else (some true))) = some r := by rw [if_neg (show ¬ (false = true) by decide)] at H; exact H
                      clear H
                      have H := H1
                      clear H1
                      by_cases c34 : a0_1 = 5
                      · rw [if_pos c34] at H
                        have c34b0 : (a0_1 == 5) = true := beq_iff_eq.mpr c34
                        have c34b1 : (a0_1 != 5) = false := bne_eq_false_iff_eq.mpr c34
                        clear c34
                        by_cases c35 : a0_2 = true
                        · subst c35
                          have H1 : (if t469 = 14 then (some false) else (if a0_1 = 6 then (if a0_3 = true then (if t469 = 6 then (some false) else (some true)) else (some true)) else (some true))) = some r := by rw [if_pos rfl] at H; exact H
                          clear H
                          have H := H1
                          clear H1
                          by_cases c36 : t469 = 14
                          · rw [if_pos c36] at H
                            have c36b0 : (t469 == 14) = true := beq_iff_eq.mpr c36
                            have c36b1 : (t469 != 14) = false := bne_eq_false_iff_eq.mpr c36
                            clear c36
                            obtain rfl := Option.some.inj H
                            have hcz37_0 : wc.cell? ⟨gb467, 0, none⟩ = some (.bool a0_0) := (blk_cell BK467.out 0).trans rfl
                            have hcz37_1 : wc.cell? ⟨gb467, 1, none⟩ = some (.int .i64 a0_1) := (blk_cell BK467.out 1).trans rfl
                            have hcz37_2 : wc.cell? ⟨gb467, 2, none⟩ = some (.bool true) := (blk_cell BK467.out 2).trans rfl
                            have hcz37_3 : wc.cell? ⟨gb467, 3, none⟩ = some (.bool a0_3) := (blk_cell BK467.out 3).trans rfl
                            have hfz37_0 := blk_frozen BK467.out 0
                            have hfz37_1 := blk_frozen BK467.out 1
                            have hfz37_2 := blk_frozen BK467.out 2
                            have hfz37_3 := blk_frozen BK467.out 3
                            go_wp2_with (first | ((with_reducible refine gate_callee (f := 69) rfl ?_); refine goesL_ (some 42) rfl rfl Try.func69 (by kernel_rfl) rfl #[.int .i64 a0_1, .int .i64 t469] rfl (by (try simp only [List.map_toArray, List.map_cons, List.map_nil]); first | done | rfl | (simp only [List.length_drop, List.length_take]; rfl)) ?_; (with_reducible refine (pentroughref11_stays.calls kj19 a0_1 t469 false _ A31.out).mono ?_); rintro e w' ⟨rfl, ⟨nd, rfl⟩⟩; refine ⟨_, rfl, ?_⟩))
                            go_ret
                            exact ⟨by first | rfl | (simp [errW_none, errW_some] <;> rfl) | (simp [*, errW_none, errW_some] <;> rfl), by repeat (first | (with_reducible first | exact HB.out | apply below_alloc | apply pw_below_drewN | apply below_drew1 | refine below_set ?_ GE467.out) | exact HB.out)⟩
                          · rw [if_neg c36] at H
                            have c36b0 : (t469 == 14) = false := beq_eq_false_iff_ne.mpr c36
                            have c36b1 : (t469 != 14) = true := bne_iff_ne.mpr c36
                            by_cases c38 : a0_1 = 6
                            · rw [if_pos c38] at H
                              have c38b0 : (a0_1 == 6) = true := beq_iff_eq.mpr c38
                              have c38b1 : (a0_1 != 6) = false := bne_eq_false_iff_eq.mpr c38
                              clear c38
                              by_cases c39 : a0_3 = true
                              · subst c39
                                have H1 : (if t469 = 6 then (some false) else (some true)) = some r := by rw [if_pos rfl] at H; exact H
                                clear H
                                have H := H1
                                clear H1
                                by_cases c40 : t469 = 6
                                · rw [if_pos c40] at H
                                  have c40b0 : (t469 == 6) = true := beq_iff_eq.mpr c40
                                  have c40b1 : (t469 != 6) = false := bne_eq_false_iff_eq.mpr c40
                                  clear c40
                                  obtain rfl := Option.some.inj H
                                  have hcz41_0 : wc.cell? ⟨gb467, 0, none⟩ = some (.bool a0_0) := (blk_cell BK467.out 0).trans rfl
                                  have hcz41_1 : wc.cell? ⟨gb467, 1, none⟩ = some (.int .i64 a0_1) := (blk_cell BK467.out 1).trans rfl
                                  have hcz41_2 : wc.cell? ⟨gb467, 2, none⟩ = some (.bool true) := (blk_cell BK467.out 2).trans rfl
                                  have hcz41_3 : wc.cell? ⟨gb467, 3, none⟩ = some (.bool true) := (blk_cell BK467.out 3).trans rfl
                                  have hfz41_0 := blk_frozen BK467.out 0
                                  have hfz41_1 := blk_frozen BK467.out 1
                                  have hfz41_2 := blk_frozen BK467.out 2
                                  have hfz41_3 := blk_frozen BK467.out 3
                                  go_wp2_with (first | ((with_reducible refine gate_callee (f := 69) rfl ?_); refine goesL_ (some 42) rfl rfl Try.func69 (by kernel_rfl) rfl #[.int .i64 a0_1, .int .i64 t469] rfl (by (try simp only [List.map_toArray, List.map_cons, List.map_nil]); first | done | rfl | (simp only [List.length_drop, List.length_take]; rfl)) ?_; (with_reducible refine (pentroughref11_stays.calls kj19 a0_1 t469 false _ A31.out).mono ?_); rintro e w' ⟨rfl, ⟨nd, rfl⟩⟩; refine ⟨_, rfl, ?_⟩))
                                  go_ret
                                  exact ⟨by first | rfl | (simp [errW_none, errW_some] <;> rfl) | (simp [*, errW_none, errW_some] <;> rfl), by repeat (first | (with_reducible first | exact HB.out | apply below_alloc | apply pw_below_drewN | apply below_drew1 | refine below_set ?_ GE467.out) | exact HB.out)⟩
                                · rw [if_neg c40] at H
                                  have c40b0 : (t469 == 6) = false := beq_eq_false_iff_ne.mpr c40
                                  have c40b1 : (t469 != 6) = true := bne_iff_ne.mpr c40
                                  obtain rfl := Option.some.inj H
                                  have hcz42_0 : wc.cell? ⟨gb467, 0, none⟩ = some (.bool a0_0) := (blk_cell BK467.out 0).trans rfl
                                  have hcz42_1 : wc.cell? ⟨gb467, 1, none⟩ = some (.int .i64 a0_1) := (blk_cell BK467.out 1).trans rfl
                                  have hcz42_2 : wc.cell? ⟨gb467, 2, none⟩ = some (.bool true) := (blk_cell BK467.out 2).trans rfl
                                  have hcz42_3 : wc.cell? ⟨gb467, 3, none⟩ = some (.bool true) := (blk_cell BK467.out 3).trans rfl
                                  have hfz42_0 := blk_frozen BK467.out 0
                                  have hfz42_1 := blk_frozen BK467.out 1
                                  have hfz42_2 := blk_frozen BK467.out 2
                                  have hfz42_3 := blk_frozen BK467.out 3
                                  go_wp2_with (first | ((with_reducible refine gate_callee (f := 69) rfl ?_); refine goesL_ (some 42) rfl rfl Try.func69 (by kernel_rfl) rfl #[.int .i64 a0_1, .int .i64 t469] rfl (by (try simp only [List.map_toArray, List.map_cons, List.map_nil]); first | done | rfl | (simp only [List.length_drop, List.length_take]; rfl)) ?_; (with_reducible refine (pentroughref11_stays.calls kj19 a0_1 t469 false _ A31.out).mono ?_); rintro e w' ⟨rfl, ⟨nd, rfl⟩⟩; refine ⟨_, rfl, ?_⟩))
                                  go_ret
                                  exact ⟨by first | rfl | (simp [errW_none, errW_some] <;> rfl) | (simp [*, errW_none, errW_some] <;> rfl), by repeat (first | (with_reducible first | exact HB.out | apply below_alloc | apply pw_below_drewN | apply below_drew1 | refine below_set ?_ GE467.out) | exact HB.out)⟩
                              · replace c39 := Bool.eq_false_iff.mpr c39
                                subst c39
                                have H1 : (some true) = some r := by rw [if_neg (show ¬ (false = true) by decide)] at H; exact H
                                clear H
                                have H := H1
                                clear H1
                                obtain rfl := Option.some.inj H
                                have hcz43_0 : wc.cell? ⟨gb467, 0, none⟩ = some (.bool a0_0) := (blk_cell BK467.out 0).trans rfl
                                have hcz43_1 : wc.cell? ⟨gb467, 1, none⟩ = some (.int .i64 a0_1) := (blk_cell BK467.out 1).trans rfl
                                have hcz43_2 : wc.cell? ⟨gb467, 2, none⟩ = some (.bool true) := (blk_cell BK467.out 2).trans rfl
                                have hcz43_3 : wc.cell? ⟨gb467, 3, none⟩ = some (.bool false) := (blk_cell BK467.out 3).trans rfl
                                have hfz43_0 := blk_frozen BK467.out 0
                                have hfz43_1 := blk_frozen BK467.out 1
                                have hfz43_2 := blk_frozen BK467.out 2
                                have hfz43_3 := blk_frozen BK467.out 3
                                go_wp2_with (first | ((with_reducible refine gate_callee (f := 69) rfl ?_); refine goesL_ (some 42) rfl rfl Try.func69 (by kernel_rfl) rfl #[.int .i64 a0_1, .int .i64 t469] rfl (by (try simp only [List.map_toArray, List.map_cons, List.map_nil]); first | done | rfl | (simp only [List.length_drop, List.length_take]; rfl)) ?_; (with_reducible refine (pentroughref11_stays.calls kj19 a0_1 t469 false _ A31.out).mono ?_); rintro e w' ⟨rfl, ⟨nd, rfl⟩⟩; refine ⟨_, rfl, ?_⟩))
                                go_ret
                                exact ⟨by first | rfl | (simp [errW_none, errW_some] <;> rfl) | (simp [*, errW_none, errW_some] <;> rfl), by repeat (first | (with_reducible first | exact HB.out | apply below_alloc | apply pw_below_drewN | apply below_drew1 | refine below_set ?_ GE467.out) | exact HB.out)⟩
                            · rw [if_neg c38] at H
                              have c38b0 : (a0_1 == 6) = false := beq_eq_false_iff_ne.mpr c38
                              have c38b1 : (a0_1 != 6) = true := bne_iff_ne.mpr c38
                              obtain rfl := Option.some.inj H
                              have hcz44_0 : wc.cell? ⟨gb467, 0, none⟩ = some (.bool a0_0) := (blk_cell BK467.out 0).trans rfl
                              have hcz44_1 : wc.cell? ⟨gb467, 1, none⟩ = some (.int .i64 a0_1) := (blk_cell BK467.out 1).trans rfl
                              have hcz44_2 : wc.cell? ⟨gb467, 2, none⟩ = some (.bool true) := (blk_cell BK467.out 2).trans rfl
                              have hcz44_3 : wc.cell? ⟨gb467, 3, none⟩ = some (.bool a0_3) := (blk_cell BK467.out 3).trans rfl
                              have hfz44_0 := blk_frozen BK467.out 0
                              have hfz44_1 := blk_frozen BK467.out 1
                              have hfz44_2 := blk_frozen BK467.out 2
                              have hfz44_3 := blk_frozen BK467.out 3
                              go_wp2_with (first | ((with_reducible refine gate_callee (f := 69) rfl ?_); refine goesL_ (some 42) rfl rfl Try.func69 (by kernel_rfl) rfl #[.int .i64 a0_1, .int .i64 t469] rfl (by (try simp only [List.map_toArray, List.map_cons, List.map_nil]); first | done | rfl | (simp only [List.length_drop, List.length_take]; rfl)) ?_; (with_reducible refine (pentroughref11_stays.calls kj19 a0_1 t469 false _ A31.out).mono ?_); rintro e w' ⟨rfl, ⟨nd, rfl⟩⟩; refine ⟨_, rfl, ?_⟩))
                              go_ret
                              exact ⟨by first | rfl | (simp [errW_none, errW_some] <;> rfl) | (simp [*, errW_none, errW_some] <;> rfl), by repeat (first | (with_reducible first | exact HB.out | apply below_alloc | apply pw_below_drewN | apply below_drew1 | refine below_set ?_ GE467.out) | exact HB.out)⟩
                        · replace c35 := Bool.eq_false_iff.mpr c35
                          subst c35
                          have H1 : (if a0_1 = 6 then (if a0_3 = true then (if t469 = 6 then (some false) else (some true)) else (some true)) else (some true)) = some r := by rw [if_neg (show ¬ (false = true) by decide)] at H; exact H
                          clear H
                          have H := H1
                          clear H1
                          by_cases c45 : a0_1 = 6
                          · rw [if_pos c45] at H
                            have c45b0 : (a0_1 == 6) = true := beq_iff_eq.mpr c45
                            have c45b1 : (a0_1 != 6) = false := bne_eq_false_iff_eq.mpr c45
                            clear c45
                            by_cases c46 : a0_3 = true
                            · subst c46
                              have H1 : (if t469 = 6 then (some false) else (some true)) = some r := by rw [if_pos rfl] at H; exact H
                              clear H
                              have H := H1
                              clear H1
                              by_cases c47 : t469 = 6
                              · rw [if_pos c47] at H
                                have c47b0 : (t469 == 6) = true := beq_iff_eq.mpr c47
                                have c47b1 : (t469 != 6) = false := bne_eq_false_iff_eq.mpr c47
                                clear c47
                                obtain rfl := Option.some.inj H
                                have hcz48_0 : wc.cell? ⟨gb467, 0, none⟩ = some (.bool a0_0) := (blk_cell BK467.out 0).trans rfl
                                have hcz48_1 : wc.cell? ⟨gb467, 1, none⟩ = some (.int .i64 a0_1) := (blk_cell BK467.out 1).trans rfl
                                have hcz48_2 : wc.cell? ⟨gb467, 2, none⟩ = some (.bool false) := (blk_cell BK467.out 2).trans rfl
                                have hcz48_3 : wc.cell? ⟨gb467, 3, none⟩ = some (.bool true) := (blk_cell BK467.out 3).trans rfl
                                have hfz48_0 := blk_frozen BK467.out 0
                                have hfz48_1 := blk_frozen BK467.out 1
                                have hfz48_2 := blk_frozen BK467.out 2
                                have hfz48_3 := blk_frozen BK467.out 3
                                go_wp2_with (first | ((with_reducible refine gate_callee (f := 69) rfl ?_); refine goesL_ (some 42) rfl rfl Try.func69 (by kernel_rfl) rfl #[.int .i64 a0_1, .int .i64 t469] rfl (by (try simp only [List.map_toArray, List.map_cons, List.map_nil]); first | done | rfl | (simp only [List.length_drop, List.length_take]; rfl)) ?_; (with_reducible refine (pentroughref11_stays.calls kj19 a0_1 t469 false _ A31.out).mono ?_); rintro e w' ⟨rfl, ⟨nd, rfl⟩⟩; refine ⟨_, rfl, ?_⟩))
                                go_ret
                                exact ⟨by first | rfl | (simp [errW_none, errW_some] <;> rfl) | (simp [*, errW_none, errW_some] <;> rfl), by repeat (first | (with_reducible first | exact HB.out | apply below_alloc | apply pw_below_drewN | apply below_drew1 | refine below_set ?_ GE467.out) | exact HB.out)⟩
                              · rw [if_neg c47] at H
                                have c47b0 : (t469 == 6) = false := beq_eq_false_iff_ne.mpr c47
                                have c47b1 : (t469 != 6) = true := bne_iff_ne.mpr c47
                                obtain rfl := Option.some.inj H
                                have hcz49_0 : wc.cell? ⟨gb467, 0, none⟩ = some (.bool a0_0) := (blk_cell BK467.out 0).trans rfl
                                have hcz49_1 : wc.cell? ⟨gb467, 1, none⟩ = some (.int .i64 a0_1) := (blk_cell BK467.out 1).trans rfl
                                have hcz49_2 : wc.cell? ⟨gb467, 2, none⟩ = some (.bool false) := (blk_cell BK467.out 2).trans rfl
                                have hcz49_3 : wc.cell? ⟨gb467, 3, none⟩ = some (.bool true) := (blk_cell BK467.out 3).trans rfl
                                have hfz49_0 := blk_frozen BK467.out 0
                                have hfz49_1 := blk_frozen BK467.out 1
                                have hfz49_2 := blk_frozen BK467.out 2
                                have hfz49_3 := blk_frozen BK467.out 3
                                go_wp2_with (first | ((with_reducible refine gate_callee (f := 69) rfl ?_); refine goesL_ (some 42) rfl rfl Try.func69 (by kernel_rfl) rfl #[.int .i64 a0_1, .int .i64 t469] rfl (by (try simp only [List.map_toArray, List.map_cons, List.map_nil]); first | done | rfl | (simp only [List.length_drop, List.length_take]; rfl)) ?_; (with_reducible refine (pentroughref11_stays.calls kj19 a0_1 t469 false _ A31.out).mono ?_); rintro e w' ⟨rfl, ⟨nd, rfl⟩⟩; refine ⟨_, rfl, ?_⟩))
                                go_ret
                                exact ⟨by first | rfl | (simp [errW_none, errW_some] <;> rfl) | (simp [*, errW_none, errW_some] <;> rfl), by repeat (first | (with_reducible first | exact HB.out | apply below_alloc | apply pw_below_drewN | apply below_drew1 | refine below_set ?_ GE467.out) | exact HB.out)⟩
                            · replace c46 := Bool.eq_false_iff.mpr c46
                              subst c46
                              have H1 : (some true) = some r := by rw [if_neg (show ¬ (false = true) by decide)] at H; exact H
                              clear H
                              have H := H1
                              clear H1
                              obtain rfl := Option.some.inj H
                              have hcz50_0 : wc.cell? ⟨gb467, 0, none⟩ = some (.bool a0_0) := (blk_cell BK467.out 0).trans rfl
                              have hcz50_1 : wc.cell? ⟨gb467, 1, none⟩ = some (.int .i64 a0_1) := (blk_cell BK467.out 1).trans rfl
                              have hcz50_2 : wc.cell? ⟨gb467, 2, none⟩ = some (.bool false) := (blk_cell BK467.out 2).trans rfl
                              have hcz50_3 : wc.cell? ⟨gb467, 3, none⟩ = some (.bool false) := (blk_cell BK467.out 3).trans rfl
                              have hfz50_0 := blk_frozen BK467.out 0
                              have hfz50_1 := blk_frozen BK467.out 1
                              have hfz50_2 := blk_frozen BK467.out 2
                              have hfz50_3 := blk_frozen BK467.out 3
                              go_wp2_with (first | ((with_reducible refine gate_callee (f := 69) rfl ?_); refine goesL_ (some 42) rfl rfl Try.func69 (by kernel_rfl) rfl #[.int .i64 a0_1, .int .i64 t469] rfl (by (try simp only [List.map_toArray, List.map_cons, List.map_nil]); first | done | rfl | (simp only [List.length_drop, List.length_take]; rfl)) ?_; (with_reducible refine (pentroughref11_stays.calls kj19 a0_1 t469 false _ A31.out).mono ?_); rintro e w' ⟨rfl, ⟨nd, rfl⟩⟩; refine ⟨_, rfl, ?_⟩))
                              go_ret
                              exact ⟨by first | rfl | (simp [errW_none, errW_some] <;> rfl) | (simp [*, errW_none, errW_some] <;> rfl), by repeat (first | (with_reducible first | exact HB.out | apply below_alloc | apply pw_below_drewN | apply below_drew1 | refine below_set ?_ GE467.out) | exact HB.out)⟩
                          · rw [if_neg c45] at H
                            have c45b0 : (a0_1 == 6) = false := beq_eq_false_iff_ne.mpr c45
                            have c45b1 : (a0_1 != 6) = true := bne_iff_ne.mpr c45
                            obtain rfl := Option.some.inj H
                            have hcz51_0 : wc.cell? ⟨gb467, 0, none⟩ = some (.bool a0_0) := (blk_cell BK467.out 0).trans rfl
                            have hcz51_1 : wc.cell? ⟨gb467, 1, none⟩ = some (.int .i64 a0_1) := (blk_cell BK467.out 1).trans rfl
                            have hcz51_2 : wc.cell? ⟨gb467, 2, none⟩ = some (.bool false) := (blk_cell BK467.out 2).trans rfl
                            have hcz51_3 : wc.cell? ⟨gb467, 3, none⟩ = some (.bool a0_3) := (blk_cell BK467.out 3).trans rfl
                            have hfz51_0 := blk_frozen BK467.out 0
                            have hfz51_1 := blk_frozen BK467.out 1
                            have hfz51_2 := blk_frozen BK467.out 2
                            have hfz51_3 := blk_frozen BK467.out 3
                            go_wp2_with (first | ((with_reducible refine gate_callee (f := 69) rfl ?_); refine goesL_ (some 42) rfl rfl Try.func69 (by kernel_rfl) rfl #[.int .i64 a0_1, .int .i64 t469] rfl (by (try simp only [List.map_toArray, List.map_cons, List.map_nil]); first | done | rfl | (simp only [List.length_drop, List.length_take]; rfl)) ?_; (with_reducible refine (pentroughref11_stays.calls kj19 a0_1 t469 false _ A31.out).mono ?_); rintro e w' ⟨rfl, ⟨nd, rfl⟩⟩; refine ⟨_, rfl, ?_⟩))
                            go_ret
                            exact ⟨by first | rfl | (simp [errW_none, errW_some] <;> rfl) | (simp [*, errW_none, errW_some] <;> rfl), by repeat (first | (with_reducible first | exact HB.out | apply below_alloc | apply pw_below_drewN | apply below_drew1 | refine below_set ?_ GE467.out) | exact HB.out)⟩
                      · rw [if_neg c34] at H
                        have c34b0 : (a0_1 == 5) = false := beq_eq_false_iff_ne.mpr c34
                        have c34b1 : (a0_1 != 5) = true := bne_iff_ne.mpr c34
                        by_cases c52 : a0_1 = 6
                        · rw [if_pos c52] at H
                          have c52b0 : (a0_1 == 6) = true := beq_iff_eq.mpr c52
                          have c52b1 : (a0_1 != 6) = false := bne_eq_false_iff_eq.mpr c52
                          clear c52
                          by_cases c53 : a0_3 = true
                          · subst c53
                            have H1 : (if t469 = 6 then (some false) else (some true)) = some r := by rw [if_pos rfl] at H; exact H
                            clear H
                            have H := H1
                            clear H1
                            by_cases c54 : t469 = 6
                            · rw [if_pos c54] at H
                              have c54b0 : (t469 == 6) = true := beq_iff_eq.mpr c54
                              have c54b1 : (t469 != 6) = false := bne_eq_false_iff_eq.mpr c54
                              clear c54
                              obtain rfl := Option.some.inj H
                              have hcz55_0 : wc.cell? ⟨gb467, 0, none⟩ = some (.bool a0_0) := (blk_cell BK467.out 0).trans rfl
                              have hcz55_1 : wc.cell? ⟨gb467, 1, none⟩ = some (.int .i64 a0_1) := (blk_cell BK467.out 1).trans rfl
                              have hcz55_2 : wc.cell? ⟨gb467, 2, none⟩ = some (.bool a0_2) := (blk_cell BK467.out 2).trans rfl
                              have hcz55_3 : wc.cell? ⟨gb467, 3, none⟩ = some (.bool true) := (blk_cell BK467.out 3).trans rfl
                              have hfz55_0 := blk_frozen BK467.out 0
                              have hfz55_1 := blk_frozen BK467.out 1
                              have hfz55_2 := blk_frozen BK467.out 2
                              have hfz55_3 := blk_frozen BK467.out 3
                              go_wp2_with (first | ((with_reducible refine gate_callee (f := 69) rfl ?_); refine goesL_ (some 42) rfl rfl Try.func69 (by kernel_rfl) rfl #[.int .i64 a0_1, .int .i64 t469] rfl (by (try simp only [List.map_toArray, List.map_cons, List.map_nil]); first | done | rfl | (simp only [List.length_drop, List.length_take]; rfl)) ?_; (with_reducible refine (pentroughref11_stays.calls kj19 a0_1 t469 false _ A31.out).mono ?_); rintro e w' ⟨rfl, ⟨nd, rfl⟩⟩; refine ⟨_, rfl, ?_⟩))
                              go_ret
                              exact ⟨by first | rfl | (simp [errW_none, errW_some] <;> rfl) | (simp [*, errW_none, errW_some] <;> rfl), by repeat (first | (with_reducible first | exact HB.out | apply below_alloc | apply pw_below_drewN | apply below_drew1 | refine below_set ?_ GE467.out) | exact HB.out)⟩
                            · rw [if_neg c54] at H
                              have c54b0 : (t469 == 6) = false := beq_eq_false_iff_ne.mpr c54
                              have c54b1 : (t469 != 6) = true := bne_iff_ne.mpr c54
                              obtain rfl := Option.some.inj H
                              have hcz56_0 : wc.cell? ⟨gb467, 0, none⟩ = some (.bool a0_0) := (blk_cell BK467.out 0).trans rfl
                              have hcz56_1 : wc.cell? ⟨gb467, 1, none⟩ = some (.int .i64 a0_1) := (blk_cell BK467.out 1).trans rfl
                              have hcz56_2 : wc.cell? ⟨gb467, 2, none⟩ = some (.bool a0_2) := (blk_cell BK467.out 2).trans rfl
                              have hcz56_3 : wc.cell? ⟨gb467, 3, none⟩ = some (.bool true) := (blk_cell BK467.out 3).trans rfl
                              have hfz56_0 := blk_frozen BK467.out 0
                              have hfz56_1 := blk_frozen BK467.out 1
                              have hfz56_2 := blk_frozen BK467.out 2
                              have hfz56_3 := blk_frozen BK467.out 3
                              go_wp2_with (first | ((with_reducible refine gate_callee (f := 69) rfl ?_); refine goesL_ (some 42) rfl rfl Try.func69 (by kernel_rfl) rfl #[.int .i64 a0_1, .int .i64 t469] rfl (by (try simp only [List.map_toArray, List.map_cons, List.map_nil]); first | done | rfl | (simp only [List.length_drop, List.length_take]; rfl)) ?_; (with_reducible refine (pentroughref11_stays.calls kj19 a0_1 t469 false _ A31.out).mono ?_); rintro e w' ⟨rfl, ⟨nd, rfl⟩⟩; refine ⟨_, rfl, ?_⟩))
                              go_ret
                              exact ⟨by first | rfl | (simp [errW_none, errW_some] <;> rfl) | (simp [*, errW_none, errW_some] <;> rfl), by repeat (first | (with_reducible first | exact HB.out | apply below_alloc | apply pw_below_drewN | apply below_drew1 | refine below_set ?_ GE467.out) | exact HB.out)⟩
                          · replace c53 := Bool.eq_false_iff.mpr c53
                            subst c53
                            have H1 : (some true) = some r := by rw [if_neg (show ¬ (false = true) by decide)] at H; exact H
                            clear H
                            have H := H1
                            clear H1
                            obtain rfl := Option.some.inj H
                            have hcz57_0 : wc.cell? ⟨gb467, 0, none⟩ = some (.bool a0_0) := (blk_cell BK467.out 0).trans rfl
                            have hcz57_1 : wc.cell? ⟨gb467, 1, none⟩ = some (.int .i64 a0_1) := (blk_cell BK467.out 1).trans rfl
                            have hcz57_2 : wc.cell? ⟨gb467, 2, none⟩ = some (.bool a0_2) := (blk_cell BK467.out 2).trans rfl
                            have hcz57_3 : wc.cell? ⟨gb467, 3, none⟩ = some (.bool false) := (blk_cell BK467.out 3).trans rfl
                            have hfz57_0 := blk_frozen BK467.out 0
                            have hfz57_1 := blk_frozen BK467.out 1
                            have hfz57_2 := blk_frozen BK467.out 2
                            have hfz57_3 := blk_frozen BK467.out 3
                            go_wp2_with (first | ((with_reducible refine gate_callee (f := 69) rfl ?_); refine goesL_ (some 42) rfl rfl Try.func69 (by kernel_rfl) rfl #[.int .i64 a0_1, .int .i64 t469] rfl (by (try simp only [List.map_toArray, List.map_cons, List.map_nil]); first | done | rfl | (simp only [List.length_drop, List.length_take]; rfl)) ?_; (with_reducible refine (pentroughref11_stays.calls kj19 a0_1 t469 false _ A31.out).mono ?_); rintro e w' ⟨rfl, ⟨nd, rfl⟩⟩; refine ⟨_, rfl, ?_⟩))
                            go_ret
                            exact ⟨by first | rfl | (simp [errW_none, errW_some] <;> rfl) | (simp [*, errW_none, errW_some] <;> rfl), by repeat (first | (with_reducible first | exact HB.out | apply below_alloc | apply pw_below_drewN | apply below_drew1 | refine below_set ?_ GE467.out) | exact HB.out)⟩
                        · rw [if_neg c52] at H
                          have c52b0 : (a0_1 == 6) = false := beq_eq_false_iff_ne.mpr c52
                          have c52b1 : (a0_1 != 6) = true := bne_iff_ne.mpr c52
                          obtain rfl := Option.some.inj H
                          have hcz58_0 : wc.cell? ⟨gb467, 0, none⟩ = some (.bool a0_0) := (blk_cell BK467.out 0).trans rfl
                          have hcz58_1 : wc.cell? ⟨gb467, 1, none⟩ = some (.int .i64 a0_1) := (blk_cell BK467.out 1).trans rfl
                          have hcz58_2 : wc.cell? ⟨gb467, 2, none⟩ = some (.bool a0_2) := (blk_cell BK467.out 2).trans rfl
                          have hcz58_3 : wc.cell? ⟨gb467, 3, none⟩ = some (.bool a0_3) := (blk_cell BK467.out 3).trans rfl
                          have hfz58_0 := blk_frozen BK467.out 0
                          have hfz58_1 := blk_frozen BK467.out 1
                          have hfz58_2 := blk_frozen BK467.out 2
                          have hfz58_3 := blk_frozen BK467.out 3
                          go_wp2_with (first | ((with_reducible refine gate_callee (f := 69) rfl ?_); refine goesL_ (some 42) rfl rfl Try.func69 (by kernel_rfl) rfl #[.int .i64 a0_1, .int .i64 t469] rfl (by (try simp only [List.map_toArray, List.map_cons, List.map_nil]); first | done | rfl | (simp only [List.length_drop, List.length_take]; rfl)) ?_; (with_reducible refine (pentroughref11_stays.calls kj19 a0_1 t469 false _ A31.out).mono ?_); rintro e w' ⟨rfl, ⟨nd, rfl⟩⟩; refine ⟨_, rfl, ?_⟩))
                          go_ret
                          exact ⟨by first | rfl | (simp [errW_none, errW_some] <;> rfl) | (simp [*, errW_none, errW_some] <;> rfl), by repeat (first | (with_reducible first | exact HB.out | apply below_alloc | apply pw_below_drewN | apply below_drew1 | refine below_set ?_ GE467.out) | exact HB.out)⟩

end Go.Proofs.Ytcabijajjceghaa.G
