-- PRINTED by print.py (a twelfth state) out of the translation. Not trusted: Lean checks it.
import Derived.Test.YtcabijajjceghaaG0
import Derived.Test.YtcabijajjceghaaG13
import Derived.Test.YtcabijajjceghaaG16
import Derived.Test.YtcabijajjceghaaG30
import Derived.Test.YtcabijajjceghaaHFeed
namespace Go.Proofs.Ytcabijajjceghaa.G
open Go.RowKit Go.Proofs.YtcabijajjceghaaW.PrintWords Go.Proofs.YtcabijajjceghaaW.PrintLast Go.Proofs.YtcabijajjceghaaW.PrintMore
attribute [local go_sem] max2_int min2_int max_two min_two max_three min_three max_four min_four   -- for this text's walks alone
set_option linter.unusedVariables false
set_option linter.unusedSimpArgs false

/-! ### pentroughlaw12_SegKeeps: function 8 -/
def pentroughlaw12_SegKeeps.j0 : Nat → Bool → List Int → Bool → List Int → Bool → Int → Bool → Bool → List Int → Bool → Int → Bool → Bool → Option (Bool)
  | 0, _, _, _, _, _, _, _, _, _, _, _, _, _ => none
  | k + 1, x5, x7, x41, x381000, x381001, x381002, x381003, x381004, x400000, x400001, x400002, x400003, x400004 => if x41 = true then (some false) else (if (x7.length : Int) > 0 then (if x5 = true then (if (x400000.length : Int) = 1 then ((pentroughref01_Same.f k x7 x381000).bind fun t402 => (if t402 = true then ((pentroughlaw12_ours.f x381000 x381001 x381002 x381003 x381004).bind fun bt403 => ((seg_Sane.f k bt403.1 bt403.2.1 bt403.2.2.1 bt403.2.2.2.1 bt403.2.2.2.2).bind fun t410 => (some t410))) else (some false))) else (some false)) else (some false)) else (if x5 = true then ((pentroughlaw12_ours.f x381000 x381001 x381002 x381003 x381004).bind fun bt411 => ((seg_Sane.f k bt411.1 bt411.2.1 bt411.2.2.1 bt411.2.2.2.1 bt411.2.2.2.2).bind fun t418 => (if t418 = true then ((pentroughlaw12_ours.f x381000 x381001 x381002 x381003 x381004).bind fun bt419 => ((seg_Sane.f k bt419.1 bt419.2.1 bt419.2.2.1 bt419.2.2.2.1 bt419.2.2.2.2).bind fun t426 => (if t426 = true then (some ((x400000.length : Int) == (wrap64 ((x381000.length : Int) + 1)))) else (some false)))) else (if (x400000.length : Int) = 1 then (some true) else ((pentroughlaw12_ours.f x381000 x381001 x381002 x381003 x381004).bind fun bt427 => ((seg_Sane.f k bt427.1 bt427.2.1 bt427.2.2.1 bt427.2.2.2.1 bt427.2.2.2.2).bind fun t434 => (if t434 = true then (some ((x400000.length : Int) == (wrap64 ((x381000.length : Int) + 1)))) else (some false)))))))) else (some false)))
def pentroughlaw12_SegKeeps.f (k : Nat) (l0_0 : List Int) (a0_1 : Bool) (a0_2 : Int) (a0_3 : Bool) (a0_4 : Bool) (a1 : Int) : Option (Bool) := (pentroughlaw12_awake.f k).bind fun t381 => (if (l0_0.length : Int) > 60 then (some t381) else ((pentroughlaw12_ours.f l0_0 a0_1 a0_2 a0_3 a0_4).bind fun bt382 => ((seg_Feed.f bt382.1 bt382.2.1 bt382.2.2.1 bt382.2.2.2.1 bt382.2.2.2.2 a1).bind fun bt389 => ((seg_Sane.f k bt389.1 bt389.2.1 bt389.2.2.1 bt389.2.2.2.1 bt389.2.2.2.2.1).bind fun t400 => (if t400 = true then (if (bt389.1.length : Int) < 1 then (pentroughlaw12_SegKeeps.j0 k t381 bt389.2.2.2.2.2 true l0_0 a0_1 a0_2 a0_3 a0_4 bt389.1 bt389.2.1 bt389.2.2.1 bt389.2.2.2.1 bt389.2.2.2.2.1) else (if 0 ≤ (wrap64 ((bt389.1.length : Int) - 1)) then (if (wrap64 ((bt389.1.length : Int) - 1)) < (bt389.1.length : Int) then (pentroughlaw12_SegKeeps.j0 k t381 bt389.2.2.2.2.2 ((rd bt389.1 (wrap64 ((bt389.1.length : Int) - 1))) != a1) l0_0 a0_1 a0_2 a0_3 a0_4 bt389.1 bt389.2.1 bt389.2.2.1 bt389.2.2.2.1 bt389.2.2.2.2.1) else (none)) else (none))) else (pentroughlaw12_SegKeeps.j0 k t381 bt389.2.2.2.2.2 true l0_0 a0_1 a0_2 a0_3 a0_4 bt389.1 bt389.2.1 bt389.2.2.1 bt389.2.2.2.1 bt389.2.2.2.2.1))))))
theorem pentroughlaw12_SegKeeps.mono_l : ∀ k, (∀ y0 y1 y2 y3 y4 y5 y6 y7 y8 y9 y10 y11 y12, LeO (pentroughlaw12_SegKeeps.j0 k y0 y1 y2 y3 y4 y5 y6 y7 y8 y9 y10 y11 y12) (pentroughlaw12_SegKeeps.j0 (k + 1) y0 y1 y2 y3 y4 y5 y6 y7 y8 y9 y10 y11 y12))
  | 0 => fun _ _ _ _ _ _ _ _ _ _ _ _ _ r h => by simp [pentroughlaw12_SegKeeps.j0] at h
  | k + 1 => by
    have ih0 := pentroughlaw12_SegKeeps.mono_l k
    · intro y0 y1 y2 y3 y4 y5 y6 y7 y8 y9 y10 y11 y12
      unfold pentroughlaw12_SegKeeps.j0
      repeat' first
      | (with_reducible exact ih0 _ _ _ _ _ _ _ _ _ _ _ _ _)
      | (with_reducible exact pentroughlaw12_awake.mono _)
      | (with_reducible exact pentroughref01_Same.mono _ _ _)
      | (with_reducible exact seg_Sane.mono _ _ _ _ _ _)
      | (with_reducible exact LeO.refl _)
      | (with_reducible exact LeO.none _)
      | (with_reducible refine LeO.ite ?_ ?_)
      | (with_reducible refine LeO.bind ?_ (fun _ => ?_))
      | exact ih0 _ _ _ _ _ _ _ _ _ _ _ _ _
      | exact pentroughlaw12_awake.mono _
      | exact pentroughref01_Same.mono _ _ _
      | exact seg_Sane.mono _ _ _ _ _ _
      | exact LeO.none _
      | refine LeO.ite ?_ ?_
      | refine LeO.bind ?_ (fun _ => ?_)
theorem pentroughlaw12_SegKeeps.mono : ∀ a0 a1 a2 a3 a4 a5 k, LeO (pentroughlaw12_SegKeeps.f k a0 a1 a2 a3 a4 a5) (pentroughlaw12_SegKeeps.f (k + 1) a0 a1 a2 a3 a4 a5) := by
  intro a0 a1 a2 a3 a4 a5 k
  have ih0 := pentroughlaw12_SegKeeps.mono_l k
  unfold pentroughlaw12_SegKeeps.f
  repeat' first
      | (with_reducible exact ih0 _ _ _ _ _ _ _ _ _ _ _ _ _)
      | (with_reducible exact pentroughlaw12_awake.mono _)
      | (with_reducible exact pentroughref01_Same.mono _ _ _)
      | (with_reducible exact seg_Sane.mono _ _ _ _ _ _)
      | (with_reducible exact LeO.refl _)
      | (with_reducible exact LeO.none _)
      | (with_reducible refine LeO.ite ?_ ?_)
      | (with_reducible refine LeO.bind ?_ (fun _ => ?_))
      | exact ih0 _ _ _ _ _ _ _ _ _ _ _ _ _
      | exact pentroughlaw12_awake.mono _
      | exact pentroughref01_Same.mono _ _ _
      | exact seg_Sane.mono _ _ _ _ _ _
      | exact LeO.none _
      | refine LeO.ite ?_ ?_
      | refine LeO.bind ?_ (fun _ => ?_)
set_option maxHeartbeats 8000000 in
set_option maxRecDepth 100000 in
theorem pentroughlaw12_SegKeeps.calls (k : Nat) (A0_0 : Option Addr) (c0_0 : Nat) (l0_0 : List Int) (a0_1 : Bool) (a0_2 : Int) (a0_3 : Bool) (a0_4 : Bool) (a1 : Int) (r : Bool) (w : World) (hr0_0 : Kd.C (Kd.int .i64) w A0_0 l0_0.length l0_0) (hc0_0 : l0_0.length ≤ c0_0) (h : pentroughlaw12_SegKeeps.f k l0_0 a0_1 a0_2 a0_3 a0_4 a1 = some r) :
    Calls Try.prog 8 #[.agg #[.slice A0_0 l0_0.length c0_0, .bool a0_1, .int .i64 a0_2, .bool a0_3, .bool a0_4], .int .i64 a1] w fun e w' => e = .returned (.bool r) ∧ Below w.heap.size w w' := by
  have hu48 := Try.underlying48
  have hu51 := Try.underlying51
  have HR0_0 := Aside0.mk hr0_0
  have HC0_0 := Aside0.mk hc0_0
  clear hr0_0 hc0_0
  have HB := Aside0.mk (Below.refl w.heap.size w)
  have H : ((pentroughlaw12_awake.f k).bind fun t381 => (if (l0_0.length : Int) > 60 then (some t381) else ((pentroughlaw12_ours.f l0_0 a0_1 a0_2 a0_3 a0_4).bind fun bt382 => ((seg_Feed.f bt382.1 bt382.2.1 bt382.2.2.1 bt382.2.2.2.1 bt382.2.2.2.2 a1).bind fun bt389 => ((seg_Sane.f k bt389.1 bt389.2.1 bt389.2.2.1 bt389.2.2.2.1 bt389.2.2.2.2.1).bind fun t400 => (if t400 = true then (if (bt389.1.length : Int) < 1 then (pentroughlaw12_SegKeeps.j0 k t381 bt389.2.2.2.2.2 true l0_0 a0_1 a0_2 a0_3 a0_4 bt389.1 bt389.2.1 bt389.2.2.1 bt389.2.2.2.1 bt389.2.2.2.2.1) else (if 0 ≤ (wrap64 ((bt389.1.length : Int) - 1)) then (if (wrap64 ((bt389.1.length : Int) - 1)) < (bt389.1.length : Int) then (pentroughlaw12_SegKeeps.j0 k t381 bt389.2.2.2.2.2 ((rd bt389.1 (wrap64 ((bt389.1.length : Int) - 1))) != a1) l0_0 a0_1 a0_2 a0_3 a0_4 bt389.1 bt389.2.1 bt389.2.2.1 bt389.2.2.2.1 bt389.2.2.2.2.1) else (none)) else (none))) else (pentroughlaw12_SegKeeps.j0 k t381 bt389.2.2.2.2.2 true l0_0 a0_1 a0_2 a0_3 a0_4 bt389.1 bt389.2.1 bt389.2.2.1 bt389.2.2.2.1 bt389.2.2.2.2.1))))))) = some r := h
  clear h
  replace H := Option.bind_eq_some_iff.mp H
  obtain ⟨t381, A30, H⟩ := H
  replace H : (if (l0_0.length : Int) > 60 then (some t381) else ((pentroughlaw12_ours.f l0_0 a0_1 a0_2 a0_3 a0_4).bind fun bt382 => ((seg_Feed.f bt382.1 bt382.2.1 bt382.2.2.1 bt382.2.2.2.1 bt382.2.2.2.2 a1).bind fun bt389 => ((seg_Sane.f k bt389.1 bt389.2.1 bt389.2.2.1 bt389.2.2.2.1 bt389.2.2.2.2.1).bind fun t400 => (if t400 = true then (if (bt389.1.length : Int) < 1 then (pentroughlaw12_SegKeeps.j0 k t381 bt389.2.2.2.2.2 true l0_0 a0_1 a0_2 a0_3 a0_4 bt389.1 bt389.2.1 bt389.2.2.1 bt389.2.2.2.1 bt389.2.2.2.2.1) else (if 0 ≤ (wrap64 ((bt389.1.length : Int) - 1)) then (if (wrap64 ((bt389.1.length : Int) - 1)) < (bt389.1.length : Int) then (pentroughlaw12_SegKeeps.j0 k t381 bt389.2.2.2.2.2 ((rd bt389.1 (wrap64 ((bt389.1.length : Int) - 1))) != a1) l0_0 a0_1 a0_2 a0_3 a0_4 bt389.1 bt389.2.1 bt389.2.2.1 bt389.2.2.2.1 bt389.2.2.2.2.1) else (none)) else (none))) else (pentroughlaw12_SegKeeps.j0 k t381 bt389.2.2.2.2.2 true l0_0 a0_1 a0_2 a0_3 a0_4 bt389.1 bt389.2.1 bt389.2.2.1 bt389.2.2.2.1 bt389.2.2.2.2.1)))))) = some r := H
  have A3 := Aside0.mk A30
  clear A30
  by_cases c4 : (l0_0.length : Int) > 60
  · rw [if_pos c4] at H
    have c4b0 : decide (60 < (l0_0.length : Int)) = true := decide_eq_true c4
    have c4b1 : decide (60 < l0_0.length) = true := decide_eq_true (by omega)
    clear c4
    obtain rfl := Option.some.inj H
    go_enter Try.func8, Try.ntmps8
    go_wp2_with (first | ((with_reducible refine gate_dst (N := 2) rfl ?_); (try (refine gate_guard (by rfl) ?_; dsimp only)); refine box_event ?hg (N := 2) ?hd (cs := #[.slice A0_0 l0_0.length c0_0, .bool a0_1, .int .i64 a0_2, .bool a0_3, .bool a0_4]) (t := 48) ?hr ?_; (case hd => rfl); (case hg => rfl); (case hr => first | (go_simp; done) | (go_simp; rfl)); intro gb380 hg w5 hbox hb; have n0_ := Aside0.mk (below_step (by repeat (first | (with_reducible first | exact HB.out | apply below_alloc | apply pw_below_drewN | apply below_drew1) | exact HB.out)) hb); have n1_ := Aside0.mk (hbox); have n2_ := Aside0.mk ((by rw [hg]; exact (below_size (by repeat (first | (with_reducible first | exact HB.out | apply below_alloc | apply pw_below_drewN | apply below_drew1) | exact HB.out))) : w.heap.size ≤ gb380)); have n3_ := Aside0.mk ((by rw [hg]; exact (below_size (by repeat (first | (with_reducible first | exact HB.out | apply below_alloc | apply pw_below_drewN | apply below_drew1) | exact HB.out))) : w.heap.size ≤ gb380)); clear HB; have HB := n0_; have BK380 := n1_; have GW380 := n2_; have GE380 := n3_; clear n0_ n1_ n2_ n3_; clear hb hbox hg) | ((with_reducible refine gate_callee (f := 27) rfl ?_); refine goesL_ (some 8) rfl rfl Try.func27 (by kernel_rfl) rfl #[] rfl (by (try simp only [List.map_toArray, List.map_cons, List.map_nil]); first | done | rfl | (simp only [List.length_drop, List.length_take]; rfl)) ?_; (with_reducible refine (pentroughlaw12_awake.calls k  t381 _ A3.out).mono ?_); rintro e w6 ⟨rfl, hb⟩; refine ⟨_, rfl, ?_⟩; have n0_ := Aside0.mk (blk_below (g := gb380) (o := .cells #[.slice A0_0 l0_0.length c0_0, .bool a0_1, .int .i64 a0_2, .bool a0_3, .bool a0_4] 48 (0, 0)) (by (with_reducible repeat (first | refine blk_drewN ?_ _ | refine blk_drew ?_ | refine blk_alloc ?_ _)); exact BK380.out) hb); have n1_ := Aside0.mk (below_step (by repeat (first | (with_reducible first | exact HB.out | apply below_alloc | apply pw_below_drewN | apply below_drew1 | refine below_set ?_ GE380.out) | exact HB.out)) hb); clear BK380; clear HB; have BK380 := n0_; have HB := n1_; clear n0_ n1_; (try clear hb); (try clear hb2); (try clear hk); (try clear hi); have hcz7_0 : w6.cell? ⟨gb380, 0, none⟩ = some (.slice A0_0 l0_0.length c0_0) := (blk_cell BK380.out 0).trans rfl; have hcz7_1 : w6.cell? ⟨gb380, 1, none⟩ = some (.bool a0_1) := (blk_cell BK380.out 1).trans rfl; have hcz7_2 : w6.cell? ⟨gb380, 2, none⟩ = some (.int .i64 a0_2) := (blk_cell BK380.out 2).trans rfl; have hcz7_3 : w6.cell? ⟨gb380, 3, none⟩ = some (.bool a0_3) := (blk_cell BK380.out 3).trans rfl; have hcz7_4 : w6.cell? ⟨gb380, 4, none⟩ = some (.bool a0_4) := (blk_cell BK380.out 4).trans rfl; have hfz7_0 := blk_frozen BK380.out 0; have hfz7_1 := blk_frozen BK380.out 1; have hfz7_2 := blk_frozen BK380.out 2; have hfz7_3 := blk_frozen BK380.out 3; have hfz7_4 := blk_frozen BK380.out 4))
    go_ret
    exact ⟨by first | rfl | (simp [errW_none, errW_some] <;> rfl) | (simp [*, errW_none, errW_some] <;> rfl), by repeat (first | (with_reducible first | exact HB.out | apply below_alloc | apply pw_below_drewN | apply below_drew1 | refine below_set ?_ GE380.out) | exact HB.out)⟩
  · rw [if_neg c4] at H
    have c4b0 : decide (60 < (l0_0.length : Int)) = false := decide_eq_false c4
    have c4b1 : decide (60 < l0_0.length) = false := decide_eq_false (by omega)
    clear c4
    replace H := Option.bind_eq_some_iff.mp H
    obtain ⟨⟨t382, t385, t386, t387, t388⟩, A80, H⟩ := H
    replace H : ((seg_Feed.f t382 t385 t386 t387 t388 a1).bind fun bt389 => ((seg_Sane.f k bt389.1 bt389.2.1 bt389.2.2.1 bt389.2.2.2.1 bt389.2.2.2.2.1).bind fun t400 => (if t400 = true then (if (bt389.1.length : Int) < 1 then (pentroughlaw12_SegKeeps.j0 k t381 bt389.2.2.2.2.2 true l0_0 a0_1 a0_2 a0_3 a0_4 bt389.1 bt389.2.1 bt389.2.2.1 bt389.2.2.2.1 bt389.2.2.2.2.1) else (if 0 ≤ (wrap64 ((bt389.1.length : Int) - 1)) then (if (wrap64 ((bt389.1.length : Int) - 1)) < (bt389.1.length : Int) then (pentroughlaw12_SegKeeps.j0 k t381 bt389.2.2.2.2.2 ((rd bt389.1 (wrap64 ((bt389.1.length : Int) - 1))) != a1) l0_0 a0_1 a0_2 a0_3 a0_4 bt389.1 bt389.2.1 bt389.2.2.1 bt389.2.2.2.1 bt389.2.2.2.2.1) else (none)) else (none))) else (pentroughlaw12_SegKeeps.j0 k t381 bt389.2.2.2.2.2 true l0_0 a0_1 a0_2 a0_3 a0_4 bt389.1 bt389.2.1 bt389.2.2.1 bt389.2.2.2.1 bt389.2.2.2.2.1)))) = some r := H
    have A8 := Aside0.mk A80
    clear A80
    replace H := Option.bind_eq_some_iff.mp H
    obtain ⟨⟨t389, t392, t393, t394, t395, t396⟩, A90, H⟩ := H
    replace H : ((seg_Sane.f k t389 t392 t393 t394 t395).bind fun t400 => (if t400 = true then (if (t389.length : Int) < 1 then (pentroughlaw12_SegKeeps.j0 k t381 t396 true l0_0 a0_1 a0_2 a0_3 a0_4 t389 t392 t393 t394 t395) else (if 0 ≤ (wrap64 ((t389.length : Int) - 1)) then (if (wrap64 ((t389.length : Int) - 1)) < (t389.length : Int) then (pentroughlaw12_SegKeeps.j0 k t381 t396 ((rd t389 (wrap64 ((t389.length : Int) - 1))) != a1) l0_0 a0_1 a0_2 a0_3 a0_4 t389 t392 t393 t394 t395) else (none)) else (none))) else (pentroughlaw12_SegKeeps.j0 k t381 t396 true l0_0 a0_1 a0_2 a0_3 a0_4 t389 t392 t393 t394 t395))) = some r := H
    have A9 := Aside0.mk A90
    clear A90
    have HC10 := Aside0.mk H
    clear H
    go_enter Try.func8, Try.ntmps8
    go_upto_region 5 with (first | ((with_reducible refine gate_dst (N := 2) rfl ?_); (try (refine gate_guard (by rfl) ?_; dsimp only)); refine box_event ?hg (N := 2) ?hd (cs := #[.slice A0_0 l0_0.length c0_0, .bool a0_1, .int .i64 a0_2, .bool a0_3, .bool a0_4]) (t := 48) ?hr ?_; (case hd => rfl); (case hg => rfl); (case hr => first | kernel_rfl | (go_simp; done) | (go_simp; rfl)); intro gb380 hg w11 hbox hb; have n0_ := Aside0.mk (below_step (by repeat (first | (with_reducible first | exact HB.out | apply below_alloc | apply pw_below_drewN | apply below_drew1) | exact HB.out)) hb); have n1_ := Aside0.mk (hbox); have n2_ := Aside0.mk ((by rw [hg]; exact (below_size (by repeat (first | (with_reducible first | exact HB.out | apply below_alloc | apply pw_below_drewN | apply below_drew1) | exact HB.out))) : w.heap.size ≤ gb380)); have n3_ := Aside0.mk ((by rw [hg]; exact (below_size (by repeat (first | (with_reducible first | exact HB.out | apply below_alloc | apply pw_below_drewN | apply below_drew1) | exact HB.out))) : w.heap.size ≤ gb380)); clear HB; have HB := n0_; have BK380 := n1_; have GW380 := n2_; have GE380 := n3_; clear n0_ n1_ n2_ n3_; clear hb hbox hg) | ((with_reducible refine gate_callee (f := 27) rfl ?_); refine goesL_ (some 8) rfl rfl Try.func27 (by kernel_rfl) rfl #[] rfl (by (try simp only [List.map_toArray, List.map_cons, List.map_nil]); first | done | rfl | (simp only [List.length_drop, List.length_take]; rfl)) ?_; (with_reducible refine (pentroughlaw12_awake.calls k  t381 _ A3.out).mono ?_); rintro e w12 ⟨rfl, hb⟩; refine ⟨_, rfl, ?_⟩; have n0_ := Aside0.mk (blk_below (g := gb380) (o := .cells #[.slice A0_0 l0_0.length c0_0, .bool a0_1, .int .i64 a0_2, .bool a0_3, .bool a0_4] 48 (0, 0)) (by (with_reducible repeat (first | refine blk_drewN ?_ _ | refine blk_drew ?_ | refine blk_alloc ?_ _)); exact BK380.out) hb); have n1_ := Aside0.mk (below_step (by repeat (first | (with_reducible first | exact HB.out | apply below_alloc | apply pw_below_drewN | apply below_drew1 | refine below_set ?_ GE380.out) | exact HB.out)) hb); clear BK380; clear HB; have BK380 := n0_; have HB := n1_; clear n0_ n1_; (try clear hb); (try clear hb2); (try clear hk); (try clear hi); have hcz13_0 : w12.cell? ⟨gb380, 0, none⟩ = some (.slice A0_0 l0_0.length c0_0) := (blk_cell BK380.out 0).trans rfl; have hcz13_1 : w12.cell? ⟨gb380, 1, none⟩ = some (.bool a0_1) := (blk_cell BK380.out 1).trans rfl; have hcz13_2 : w12.cell? ⟨gb380, 2, none⟩ = some (.int .i64 a0_2) := (blk_cell BK380.out 2).trans rfl; have hcz13_3 : w12.cell? ⟨gb380, 3, none⟩ = some (.bool a0_3) := (blk_cell BK380.out 3).trans rfl; have hcz13_4 : w12.cell? ⟨gb380, 4, none⟩ = some (.bool a0_4) := (blk_cell BK380.out 4).trans rfl; have hfz13_0 := blk_frozen BK380.out 0; have hfz13_1 := blk_frozen BK380.out 1; have hfz13_2 := blk_frozen BK380.out 2; have hfz13_3 := blk_frozen BK380.out 3; have hfz13_4 := blk_frozen BK380.out 4) | ((with_reducible refine gate_callee (f := 31) rfl ?_); refine goesL_ (some 16) rfl rfl Try.func31 (by kernel_rfl) rfl #[.agg #[.slice A0_0 l0_0.length c0_0, .bool a0_1, .int .i64 a0_2, .bool a0_3, .bool a0_4]] rfl (by (try simp only [List.map_toArray, List.map_cons, List.map_nil]); first | done | rfl | (simp only [List.length_drop, List.length_take]; rfl)) ?_; (with_reducible refine (pentroughlaw12_ours.calls (fun k_ => k_ < w.heap.size) _ _ l0_0 a0_1 a0_2 a0_3 a0_4 t382 t385 t386 t387 t388 _ ?side1 A8.out).mono ?_); (case side1 => exact Kd.V_mk HC0_0.out (Kd.F_below (Kd.C_F (Kd.heap_int .i64) HR0_0.out) (by repeat (first | (with_reducible first | exact HB.out | apply below_alloc | apply pw_below_drewN | apply below_drew1 | refine below_set ?_ GE380.out) | exact HB.out)))); rintro e w14 ⟨v383, rfl, ho0, hb⟩; refine ⟨_, rfl, ?_⟩; have n0_ := Aside0.mk (Kd.V_lower (Kd.V_mono (ok' := fun k_ => k_ ≠ gb380) ho0 (fun k_ hk_ => Or.elim hk_ (fun hs_ => fun e_ => Nat.not_le.2 hs_ (by rw [e_]; exact GW380.out)) (fun hn_ => (Kd.freshB (g := gb380) (o := .cells #[.slice A0_0 l0_0.length c0_0, .bool a0_1, .int .i64 a0_2, .bool a0_3, .bool a0_4] 48 (0, 0)) (by (with_reducible repeat (first | refine blk_drewN ?_ _ | refine blk_drew ?_ | refine blk_alloc ?_ _)); exact BK380.out) k_ hn_)))) (below_size (by repeat (first | (with_reducible first | exact HB.out | apply below_alloc | apply pw_below_drewN | apply below_drew1 | refine below_set ?_ GE380.out) | exact HB.out)))); have n1_ := Aside0.mk (blk_below (g := gb380) (o := .cells #[.slice A0_0 l0_0.length c0_0, .bool a0_1, .int .i64 a0_2, .bool a0_3, .bool a0_4] 48 (0, 0)) (by (with_reducible repeat (first | refine blk_drewN ?_ _ | refine blk_drew ?_ | refine blk_alloc ?_ _)); exact BK380.out) hb); have n2_ := Aside0.mk (below_step (by repeat (first | (with_reducible first | exact HB.out | apply below_alloc | apply pw_below_drewN | apply below_drew1 | refine below_set ?_ GE380.out) | exact HB.out)) hb); clear BK380; clear HB; have HO384 := n0_; have BK380 := n1_; have HB := n2_; clear n0_ n1_ n2_; (try clear hb); (try clear hb2); (try clear hk); (try clear hi); (try clear ho0); obtain ⟨Ao15, co15, eo15⟩ := Kd.V_slice HO384.out; subst eo15) | ((with_reducible refine gate_callee (f := 30) rfl ?_); refine goesL_ (some 18) rfl rfl Try.func30 (by kernel_rfl) rfl #[.agg #[.slice Ao15 t382.length co15, .bool t385, .int .i64 t386, .bool t387, .bool t388], .int .i64 a1] rfl (by (try simp only [List.map_toArray, List.map_cons, List.map_nil]); first | done | rfl | (simp only [List.length_drop, List.length_take]; rfl)) ?_; (with_reducible refine (seg_Feed.calls (fun k_ => k_ ≠ gb380) _ _ t382 t385 t386 t387 t388 a1 t389 t392 t393 t394 t395 t396 _ ?side1 A9.out).mono ?_); (case side1 => exact HO384.out); rintro e w16 ⟨v390, v397, rfl, ho0, ho1, hb⟩; refine ⟨_, rfl, ?_⟩; have n0_ := Aside0.mk (Kd.V_below (by (with_reducible repeat (first | apply Kd.V_alloc | apply Kd.V_drewN | apply Kd.V_drew)); exact HO384.out) hb); have n1_ := Aside0.mk (Kd.V_lower (Kd.V_mono (ok' := fun k_ => k_ ≠ gb380) ho0 (fun k_ hk_ => Or.elim hk_ (fun hs_ => hs_) (fun hn_ => (Kd.freshB (g := gb380) (o := .cells #[.slice A0_0 l0_0.length c0_0, .bool a0_1, .int .i64 a0_2, .bool a0_3, .bool a0_4] 48 (0, 0)) (by (with_reducible repeat (first | refine blk_drewN ?_ _ | refine blk_drew ?_ | refine blk_alloc ?_ _)); exact BK380.out) k_ hn_)))) (below_size (by repeat (first | (with_reducible first | exact HB.out | apply below_alloc | apply pw_below_drewN | apply below_drew1 | refine below_set ?_ GE380.out) | exact HB.out)))); have n2_ := Aside0.mk (Kd.V_lower (Kd.V_mono (ok' := fun k_ => k_ ≠ gb380) ho1 (fun k_ hk_ => Or.elim hk_ (fun hs_ => hs_) (fun hn_ => (Kd.freshB (g := gb380) (o := .cells #[.slice A0_0 l0_0.length c0_0, .bool a0_1, .int .i64 a0_2, .bool a0_3, .bool a0_4] 48 (0, 0)) (by (with_reducible repeat (first | refine blk_drewN ?_ _ | refine blk_drew ?_ | refine blk_alloc ?_ _)); exact BK380.out) k_ hn_)))) (below_size (by repeat (first | (with_reducible first | exact HB.out | apply below_alloc | apply pw_below_drewN | apply below_drew1 | refine below_set ?_ GE380.out) | exact HB.out)))); have n3_ := Aside0.mk (blk_below (g := gb380) (o := .cells #[.slice A0_0 l0_0.length c0_0, .bool a0_1, .int .i64 a0_2, .bool a0_3, .bool a0_4] 48 (0, 0)) (by (with_reducible repeat (first | refine blk_drewN ?_ _ | refine blk_drew ?_ | refine blk_alloc ?_ _)); exact BK380.out) hb); have n4_ := Aside0.mk (below_step (by repeat (first | (with_reducible first | exact HB.out | apply below_alloc | apply pw_below_drewN | apply below_drew1 | refine below_set ?_ GE380.out) | exact HB.out)) hb); clear HO384; clear BK380; clear HB; have HO384 := n0_; have HO391 := n1_; have HO398 := n2_; have BK380 := n3_; have HB := n4_; clear n0_ n1_ n2_ n3_ n4_; (try clear hb); (try clear hb2); (try clear hk); (try clear hi); (try clear ho0); (try clear ho1)) | ((with_reducible refine gate_dst (N := 6) rfl ?_); (try (refine gate_guard (by rfl) ?_; dsimp only)); refine box_event ?hg (N := 6) ?hd (cs := #[.slice none 0 0, .bool false, .int .i64 0, .bool false, .bool false]) (t := 51) ?hr ?_; (case hd => rfl); (case hg => rfl); (case hr => first | kernel_rfl | (go_simp; done) | (go_simp; rfl)); intro gb399 hg w17 hbox hb; have n0_ := Aside0.mk (Kd.V_below (Kd.V_elderB (by (with_reducible repeat (first | apply Kd.V_alloc | apply Kd.V_drewN | apply Kd.V_drew)); exact HO384.out) gb399 (Nat.le_of_eq hg.symm)) hb); have n1_ := Aside0.mk (Kd.V_below (Kd.V_elderB (by (with_reducible repeat (first | apply Kd.V_alloc | apply Kd.V_drewN | apply Kd.V_drew)); exact HO391.out) gb399 (Nat.le_of_eq hg.symm)) hb); have n2_ := Aside0.mk (Kd.V_below (Kd.V_elderB (by (with_reducible repeat (first | apply Kd.V_alloc | apply Kd.V_drewN | apply Kd.V_drew)); exact HO398.out) gb399 (Nat.le_of_eq hg.symm)) hb); have n3_ := Aside0.mk (blk_below (g := gb380) (o := .cells #[.slice A0_0 l0_0.length c0_0, .bool a0_1, .int .i64 a0_2, .bool a0_3, .bool a0_4] 48 (0, 0)) (by (with_reducible repeat (first | refine blk_drewN ?_ _ | refine blk_drew ?_ | refine blk_alloc ?_ _)); exact BK380.out) hb); have n4_ := Aside0.mk (below_step (by repeat (first | (with_reducible first | exact HB.out | apply below_alloc | apply pw_below_drewN | apply below_drew1 | refine below_set ?_ GE380.out) | exact HB.out)) hb); have n5_ := Aside0.mk (hbox); have n6_ := Aside0.mk ((by rw [hg]; exact (below_size (by repeat (first | (with_reducible first | exact HB.out | apply below_alloc | apply pw_below_drewN | apply below_drew1 | refine below_set ?_ GE380.out) | exact HB.out))) : w.heap.size ≤ gb399)); have n7_ := Aside0.mk ((by rw [hg]; exact (below_size (by repeat (first | (with_reducible first | exact HB.out | apply below_alloc | apply pw_below_drewN | apply below_drew1 | refine below_set ?_ GE380.out) | exact HB.out))) : w.heap.size ≤ gb399)); have n8_ := Aside0.mk ((by rw [hg]; exact Nat.ne_of_lt (blk_lt (g := gb380) (o := .cells #[.slice A0_0 l0_0.length c0_0, .bool a0_1, .int .i64 a0_2, .bool a0_3, .bool a0_4] 48 (0, 0)) (by (with_reducible repeat (first | refine blk_drewN ?_ _ | refine blk_drew ?_ | refine blk_alloc ?_ _)); exact BK380.out)) : gb380 ≠ gb399)); have n9_ := Aside0.mk ((by rw [hg]; exact Nat.ne_of_gt (blk_lt (g := gb380) (o := .cells #[.slice A0_0 l0_0.length c0_0, .bool a0_1, .int .i64 a0_2, .bool a0_3, .bool a0_4] 48 (0, 0)) (by (with_reducible repeat (first | refine blk_drewN ?_ _ | refine blk_drew ?_ | refine blk_alloc ?_ _)); exact BK380.out)) : gb399 ≠ gb380)); clear HO384; clear HO391; clear HO398; clear BK380; clear HB; have HO384 := n0_; have HO391 := n1_; have HO398 := n2_; have BK380 := n3_; have HB := n4_; have BK399 := n5_; have GW399 := n6_; have GE399 := n7_; have NB380_399 := n8_; have NB399_380 := n9_; clear n0_ n1_ n2_ n3_ n4_ n5_ n6_ n7_ n8_ n9_; clear hb hbox hg; obtain ⟨Ao18, co18, eo18⟩ := Kd.V_slice HO391.out; subst eo18; have hnb19 := NB399_380.out; have hnc19 := NB380_399.out; have hcz20_0 : w17.cell? ⟨gb399, 0, none⟩ = some (.slice none 0 0) := (blk_cell BK399.out 0).trans rfl; have hcz20_1 : w17.cell? ⟨gb399, 1, none⟩ = some (.bool false) := (blk_cell BK399.out 1).trans rfl; have hcz20_2 : w17.cell? ⟨gb399, 2, none⟩ = some (.int .i64 0) := (blk_cell BK399.out 2).trans rfl; have hcz20_3 : w17.cell? ⟨gb399, 3, none⟩ = some (.bool false) := (blk_cell BK399.out 3).trans rfl; have hcz20_4 : w17.cell? ⟨gb399, 4, none⟩ = some (.bool false) := (blk_cell BK399.out 4).trans rfl; have hfz20_0 := blk_frozen BK399.out 0; have hfz20_1 := blk_frozen BK399.out 1; have hfz20_2 := blk_frozen BK399.out 2; have hfz20_3 := blk_frozen BK399.out 3; have hfz20_4 := blk_frozen BK399.out 4))
    (try simp only [Act.put, List.setIfInBounds_toArray, List.set_cons_zero, List.set_cons_succ])
    go_cut [41] (fun v41 wc => ∃ (kq : Nat) (x41_9 : Bool), v41 = .bool x41_9 ∧ Aside0 (pentroughlaw12_SegKeeps.j0 kq t381 t396 x41_9 l0_0 a0_1 a0_2 a0_3 a0_4 t389 t392 t393 t394 t395 = some r) ∧ Aside0 (kq ≤ k) ∧ Aside0 (Kd.V (Kd.int .i64) 3 wc w.heap.size (fun k_ => k_ ≠ gb380 ∧ k_ ≠ gb399) v397 t396) ∧ Aside0 (Kd.V (Kd.int .i64) 3 wc w.heap.size (fun k_ => k_ ≠ gb380 ∧ k_ ≠ gb399) (.slice Ao18 t389.length co18) t389) ∧ Aside0 (wc.heap[gb380]? = some (.cells #[(.slice A0_0 l0_0.length c0_0), .bool a0_1, .int .i64 a0_2, .bool a0_3, .bool a0_4] 48 (0, 0))) ∧ Aside0 (wc.heap[gb399]? = some (.cells #[(.slice Ao18 t389.length co18), .bool t392, .int .i64 t393, .bool t394, .bool t395] 51 (0, 0))) ∧ Aside0 (Below w.heap.size w wc))
    case first =>
      have H := HC10.out
      clear HC10
      replace H := Option.bind_eq_some_iff.mp H
      obtain ⟨t400, A210, H⟩ := H
      replace H : (if t400 = true then (if (t389.length : Int) < 1 then (pentroughlaw12_SegKeeps.j0 k t381 t396 true l0_0 a0_1 a0_2 a0_3 a0_4 t389 t392 t393 t394 t395) else (if 0 ≤ (wrap64 ((t389.length : Int) - 1)) then (if (wrap64 ((t389.length : Int) - 1)) < (t389.length : Int) then (pentroughlaw12_SegKeeps.j0 k t381 t396 ((rd t389 (wrap64 ((t389.length : Int) - 1))) != a1) l0_0 a0_1 a0_2 a0_3 a0_4 t389 t392 t393 t394 t395) else (none)) else (none))) else (pentroughlaw12_SegKeeps.j0 k t381 t396 true l0_0 a0_1 a0_2 a0_3 a0_4 t389 t392 t393 t394 t395)) = some r := H
      have A21 := Aside0.mk A210
      clear A210
      by_cases c22 : t400 = true
      · subst c22
        have H1 : (if (t389.length : Int) < 1 then (pentroughlaw12_SegKeeps.j0 k t381 t396 true l0_0 a0_1 a0_2 a0_3 a0_4 t389 t392 t393 t394 t395) else (if 0 ≤ (wrap64 ((t389.length : Int) - 1)) then (if (wrap64 ((t389.length : Int) - 1)) < (t389.length : Int) then (pentroughlaw12_SegKeeps.j0 k t381 t396 ((rd t389 (wrap64 ((t389.length : Int) - 1))) != a1) l0_0 a0_1 a0_2 a0_3 a0_4 t389 t392 t393 t394 t395) else (none)) else (none))) = some r := by rw [if_pos rfl] at H; exact H
        clear H
        have H := H1
        clear H1
        by_cases c23 : (t389.length : Int) < 1
        · rw [if_pos c23] at H
          have c23b0 : decide ((t389.length : Int) < 1) = true := decide_eq_true c23
          have c23b1 : decide (t389.length < 1) = true := decide_eq_true (by omega)
          clear c23
          (first | rw [c23b0] | (simp only [i64_w, i32_w]; rw [c23b0]) | skip)
          have H' := Aside0.mk H
          clear H
          have hnb24 := NB399_380.out
          have hnc24 := NB380_399.out
          have hcz25_0 : w17.cell? ⟨gb399, 0, none⟩ = some (.slice none 0 0) := (blk_cell BK399.out 0).trans rfl
          have hcz25_1 : w17.cell? ⟨gb399, 1, none⟩ = some (.bool false) := (blk_cell BK399.out 1).trans rfl
          have hcz25_2 : w17.cell? ⟨gb399, 2, none⟩ = some (.int .i64 0) := (blk_cell BK399.out 2).trans rfl
          have hcz25_3 : w17.cell? ⟨gb399, 3, none⟩ = some (.bool false) := (blk_cell BK399.out 3).trans rfl
          have hcz25_4 : w17.cell? ⟨gb399, 4, none⟩ = some (.bool false) := (blk_cell BK399.out 4).trans rfl
          have hfz25_0 := blk_frozen BK399.out 0
          have hfz25_1 := blk_frozen BK399.out 1
          have hfz25_2 := blk_frozen BK399.out 2
          have hfz25_3 := blk_frozen BK399.out 3
          have hfz25_4 := blk_frozen BK399.out 4
          go_wp2_with (first | ((with_reducible refine gate_callee (f := 32) rfl ?_); refine goesL_ (some 22) rfl rfl Try.func32 (by kernel_rfl) rfl #[.agg #[.slice Ao18 t389.length co18, .bool t392, .int .i64 t393, .bool t394, .bool t395]] rfl (by (try simp only [List.map_toArray, List.map_cons, List.map_nil]); first | done | rfl | (simp only [List.length_drop, List.length_take]; rfl)) ?_; (with_reducible refine (seg_Sane.calls k _ _ t389 t392 t393 t394 t395 true _ ?side1 ?side2 A21.out).mono ?_); (case side1 => refine (Kd.V_reads' (e := 3) (base := w.heap.size) (ok := fun k_ => (k_ ≠ gb380 ∧ k_ ≠ gb399)) (n := t389.length) (c := co18) ?_).2.2; exact (by (with_reducible repeat (first | apply Kd.V_alloc | apply Kd.V_drewN | apply Kd.V_drew)); exact (Kd.V_mono (Kd.V_far (p := ⟨gb399, 4, none⟩) (Kd.V_far (p := ⟨gb399, 3, none⟩) (Kd.V_far (p := ⟨gb399, 2, none⟩) (Kd.V_far (p := ⟨gb399, 1, none⟩) (Kd.V_far (p := ⟨gb399, 0, none⟩) (Kd.V_mono HO391.out (fun k_ hk => (⟨hk, hk.2⟩ : _ ∧ k_ ≠ gb399))) (fun _ hk => hk.2) (.slice Ao18 t389.length co18)) (fun _ hk => hk.2) (.bool t392)) (fun _ hk => hk.2) (.int .i64 t393)) (fun _ hk => hk.2) (.bool t394)) (fun _ hk => hk.2) (.bool t395)) (fun _ h_ => h_.1)))); (case side2 => exact (Kd.V_reads' HO391.out).2.1); rintro e w26 ⟨rfl, hb⟩; refine ⟨_, rfl, ?_⟩; have n0_ := Aside0.mk (Kd.V_below (by (with_reducible repeat (first | apply Kd.V_alloc | apply Kd.V_drewN | apply Kd.V_drew)); exact (Kd.V_mono (Kd.V_far (p := ⟨gb399, 4, none⟩) (Kd.V_far (p := ⟨gb399, 3, none⟩) (Kd.V_far (p := ⟨gb399, 2, none⟩) (Kd.V_far (p := ⟨gb399, 1, none⟩) (Kd.V_far (p := ⟨gb399, 0, none⟩) (Kd.V_mono HO384.out (fun k_ hk => (⟨hk, hk.2⟩ : _ ∧ k_ ≠ gb399))) (fun _ hk => hk.2) (.slice Ao18 t389.length co18)) (fun _ hk => hk.2) (.bool t392)) (fun _ hk => hk.2) (.int .i64 t393)) (fun _ hk => hk.2) (.bool t394)) (fun _ hk => hk.2) (.bool t395)) (fun _ h_ => h_.1))) hb); have n1_ := Aside0.mk (Kd.V_below (by (with_reducible repeat (first | apply Kd.V_alloc | apply Kd.V_drewN | apply Kd.V_drew)); exact (Kd.V_mono (Kd.V_far (p := ⟨gb399, 4, none⟩) (Kd.V_far (p := ⟨gb399, 3, none⟩) (Kd.V_far (p := ⟨gb399, 2, none⟩) (Kd.V_far (p := ⟨gb399, 1, none⟩) (Kd.V_far (p := ⟨gb399, 0, none⟩) (Kd.V_mono HO391.out (fun k_ hk => (⟨hk, hk.2⟩ : _ ∧ k_ ≠ gb399))) (fun _ hk => hk.2) (.slice Ao18 t389.length co18)) (fun _ hk => hk.2) (.bool t392)) (fun _ hk => hk.2) (.int .i64 t393)) (fun _ hk => hk.2) (.bool t394)) (fun _ hk => hk.2) (.bool t395)) (fun _ h_ => h_.1))) hb); have n2_ := Aside0.mk (Kd.V_below (by (with_reducible repeat (first | apply Kd.V_alloc | apply Kd.V_drewN | apply Kd.V_drew)); exact (Kd.V_mono (Kd.V_far (p := ⟨gb399, 4, none⟩) (Kd.V_far (p := ⟨gb399, 3, none⟩) (Kd.V_far (p := ⟨gb399, 2, none⟩) (Kd.V_far (p := ⟨gb399, 1, none⟩) (Kd.V_far (p := ⟨gb399, 0, none⟩) (Kd.V_mono HO398.out (fun k_ hk => (⟨hk, hk.2⟩ : _ ∧ k_ ≠ gb399))) (fun _ hk => hk.2) (.slice Ao18 t389.length co18)) (fun _ hk => hk.2) (.bool t392)) (fun _ hk => hk.2) (.int .i64 t393)) (fun _ hk => hk.2) (.bool t394)) (fun _ hk => hk.2) (.bool t395)) (fun _ h_ => h_.1))) hb); have n3_ := Aside0.mk (blk_below (g := gb380) (o := .cells #[.slice A0_0 l0_0.length c0_0, .bool a0_1, .int .i64 a0_2, .bool a0_3, .bool a0_4] 48 (0, 0)) (by (with_reducible repeat (first | refine blk_drewN ?_ _ | refine blk_drew ?_ | refine blk_alloc ?_ _)); refine blk_far ?_ NB380_399.out _; (with_reducible repeat (first | refine blk_drewN ?_ _ | refine blk_drew ?_ | refine blk_alloc ?_ _)); refine blk_far ?_ NB380_399.out _; (with_reducible repeat (first | refine blk_drewN ?_ _ | refine blk_drew ?_ | refine blk_alloc ?_ _)); refine blk_far ?_ NB380_399.out _; (with_reducible repeat (first | refine blk_drewN ?_ _ | refine blk_drew ?_ | refine blk_alloc ?_ _)); refine blk_far ?_ NB380_399.out _; (with_reducible repeat (first | refine blk_drewN ?_ _ | refine blk_drew ?_ | refine blk_alloc ?_ _)); refine blk_far ?_ NB380_399.out _; (with_reducible repeat (first | refine blk_drewN ?_ _ | refine blk_drew ?_ | refine blk_alloc ?_ _)); exact BK380.out) hb); have n4_ := Aside0.mk (blk_below (g := gb399) (o := .cells #[.slice Ao18 t389.length co18, .bool t392, .int .i64 t393, .bool t394, .bool t395] 51 (0, 0)) (by (with_reducible repeat (first | refine blk_drewN ?_ _ | refine blk_drew ?_ | refine blk_alloc ?_ _)); refine blk_put (cs := #[.slice Ao18 t389.length co18, .bool t392, .int .i64 t393, .bool t394, .bool false]) ?_ 4 _ rfl; (with_reducible repeat (first | refine blk_drewN ?_ _ | refine blk_drew ?_ | refine blk_alloc ?_ _)); refine blk_put (cs := #[.slice Ao18 t389.length co18, .bool t392, .int .i64 t393, .bool false, .bool false]) ?_ 3 _ rfl; (with_reducible repeat (first | refine blk_drewN ?_ _ | refine blk_drew ?_ | refine blk_alloc ?_ _)); refine blk_put (cs := #[.slice Ao18 t389.length co18, .bool t392, .int .i64 0, .bool false, .bool false]) ?_ 2 _ rfl; (with_reducible repeat (first | refine blk_drewN ?_ _ | refine blk_drew ?_ | refine blk_alloc ?_ _)); refine blk_put (cs := #[.slice Ao18 t389.length co18, .bool false, .int .i64 0, .bool false, .bool false]) ?_ 1 _ rfl; (with_reducible repeat (first | refine blk_drewN ?_ _ | refine blk_drew ?_ | refine blk_alloc ?_ _)); refine blk_put (cs := #[.slice none 0 0, .bool false, .int .i64 0, .bool false, .bool false]) ?_ 0 _ rfl; (with_reducible repeat (first | refine blk_drewN ?_ _ | refine blk_drew ?_ | refine blk_alloc ?_ _)); exact BK399.out) hb); have n5_ := Aside0.mk (below_step (by repeat (first | (with_reducible first | exact HB.out | apply below_alloc | apply pw_below_drewN | apply below_drew1 | refine below_set ?_ GE380.out | refine below_set ?_ GE399.out) | exact HB.out)) hb); clear HO384; clear HO391; clear HO398; clear BK380; clear BK399; clear HB; have HO384 := n0_; have HO391 := n1_; have HO398 := n2_; have BK380 := n3_; have BK399 := n4_; have HB := n5_; clear n0_ n1_ n2_ n3_ n4_ n5_; (try clear hb); (try clear hb2); (try clear hk); (try clear hi); have hcz27_0 : w26.cell? ⟨gb399, 0, none⟩ = some (.slice Ao18 t389.length co18) := (blk_cell BK399.out 0).trans rfl; have hcz27_1 : w26.cell? ⟨gb399, 1, none⟩ = some (.bool t392) := (blk_cell BK399.out 1).trans rfl; have hcz27_2 : w26.cell? ⟨gb399, 2, none⟩ = some (.int .i64 t393) := (blk_cell BK399.out 2).trans rfl; have hcz27_3 : w26.cell? ⟨gb399, 3, none⟩ = some (.bool t394) := (blk_cell BK399.out 3).trans rfl; have hcz27_4 : w26.cell? ⟨gb399, 4, none⟩ = some (.bool t395) := (blk_cell BK399.out 4).trans rfl; have hfz27_0 := blk_frozen BK399.out 0; have hfz27_1 := blk_frozen BK399.out 1; have hfz27_2 := blk_frozen BK399.out 2; have hfz27_3 := blk_frozen BK399.out 3; have hfz27_4 := blk_frozen BK399.out 4))
          go_meet
          case rel => exact ⟨_, (true), (by first | rfl | (simp; done) | (simp [*]; done)), H', ⟨by first | omega | exact Nat.le_refl _⟩, ⟨by (with_reducible repeat (first | apply Kd.V_alloc | apply Kd.V_drewN | apply Kd.V_drew)); exact HO398.out⟩, ⟨by (with_reducible repeat (first | apply Kd.V_alloc | apply Kd.V_drewN | apply Kd.V_drew)); exact HO391.out⟩, ⟨by (with_reducible repeat (first | refine blk_drewN ?_ _ | refine blk_drew ?_ | refine blk_alloc ?_ _)); exact BK380.out⟩, ⟨by (with_reducible repeat (first | refine blk_drewN ?_ _ | refine blk_drew ?_ | refine blk_alloc ?_ _)); exact BK399.out⟩, ⟨by repeat (first | (with_reducible first | exact HB.out | apply below_alloc | apply pw_below_drewN | apply below_drew1 | refine below_set ?_ GE380.out | refine below_set ?_ GE399.out) | exact HB.out)⟩⟩
        · rw [if_neg c23] at H
          have c23b0 : decide ((t389.length : Int) < 1) = false := decide_eq_false c23
          have c23b1 : decide (t389.length < 1) = false := decide_eq_false (by omega)
          clear c23
          (first | rw [c23b0] | (simp only [i64_w, i32_w]; rw [c23b0]) | skip)
          obtain ⟨ji28, hji28⟩ : ∃ j_ : Int, (wrap64 ((t389.length : Int) - 1)) = j_ := ⟨_, rfl⟩
          replace H : (if 0 ≤ (ji28) then (if (ji28) < (t389.length : Int) then (pentroughlaw12_SegKeeps.j0 k t381 t396 ((rd t389 (ji28)) != a1) l0_0 a0_1 a0_2 a0_3 a0_4 t389 t392 t393 t394 t395) else (none)) else (none)) = some r := by first | (rw [hji28] at H; exact H) | (simp only [hji28] at H ⊢; exact H)
          (try rw [hji28] at A21)
          have hji28w : (IntKind.i64.wrap ((t389.length : Int) - 1)) = ji28 := (i64_w _).trans hji28
          by_cases c29 : 0 ≤ (ji28)
          · rw [if_pos c29] at H
            have c29b0 : decide (0 ≤ (ji28)) = true := decide_eq_true c29
            clear c29
            by_cases c30 : (ji28) < (t389.length : Int)
            · rw [if_pos c30] at H
              have c30b0 : decide ((ji28) < (t389.length : Int)) = true := decide_eq_true c30
              clear c30
              have H' := Aside0.mk H
              clear H
              have hnb31 := NB399_380.out
              have hnc31 := NB380_399.out
              have hcz32_0 : w17.cell? ⟨gb399, 0, none⟩ = some (.slice none 0 0) := (blk_cell BK399.out 0).trans rfl
              have hcz32_1 : w17.cell? ⟨gb399, 1, none⟩ = some (.bool false) := (blk_cell BK399.out 1).trans rfl
              have hcz32_2 : w17.cell? ⟨gb399, 2, none⟩ = some (.int .i64 0) := (blk_cell BK399.out 2).trans rfl
              have hcz32_3 : w17.cell? ⟨gb399, 3, none⟩ = some (.bool false) := (blk_cell BK399.out 3).trans rfl
              have hcz32_4 : w17.cell? ⟨gb399, 4, none⟩ = some (.bool false) := (blk_cell BK399.out 4).trans rfl
              have hfz32_0 := blk_frozen BK399.out 0
              have hfz32_1 := blk_frozen BK399.out 1
              have hfz32_2 := blk_frozen BK399.out 2
              have hfz32_3 := blk_frozen BK399.out 3
              have hfz32_4 := blk_frozen BK399.out 4
              go_wp2_with (first | ((with_reducible refine gate_callee (f := 32) rfl ?_); refine goesL_ (some 22) rfl rfl Try.func32 (by kernel_rfl) rfl #[.agg #[.slice Ao18 t389.length co18, .bool t392, .int .i64 t393, .bool t394, .bool t395]] rfl (by (try simp only [List.map_toArray, List.map_cons, List.map_nil]); first | done | rfl | (simp only [List.length_drop, List.length_take]; rfl)) ?_; (with_reducible refine (seg_Sane.calls k _ _ t389 t392 t393 t394 t395 true _ ?side1 ?side2 A21.out).mono ?_); (case side1 => refine (Kd.V_reads' (e := 3) (base := w.heap.size) (ok := fun k_ => (k_ ≠ gb380 ∧ k_ ≠ gb399)) (n := t389.length) (c := co18) ?_).2.2; exact (by (with_reducible repeat (first | apply Kd.V_alloc | apply Kd.V_drewN | apply Kd.V_drew)); exact (Kd.V_mono (Kd.V_far (p := ⟨gb399, 4, none⟩) (Kd.V_far (p := ⟨gb399, 3, none⟩) (Kd.V_far (p := ⟨gb399, 2, none⟩) (Kd.V_far (p := ⟨gb399, 1, none⟩) (Kd.V_far (p := ⟨gb399, 0, none⟩) (Kd.V_mono HO391.out (fun k_ hk => (⟨hk, hk.2⟩ : _ ∧ k_ ≠ gb399))) (fun _ hk => hk.2) (.slice Ao18 t389.length co18)) (fun _ hk => hk.2) (.bool t392)) (fun _ hk => hk.2) (.int .i64 t393)) (fun _ hk => hk.2) (.bool t394)) (fun _ hk => hk.2) (.bool t395)) (fun _ h_ => h_.1)))); (case side2 => exact (Kd.V_reads' HO391.out).2.1); rintro e w33 ⟨rfl, hb⟩; refine ⟨_, rfl, ?_⟩; have n0_ := Aside0.mk (Kd.V_below (by (with_reducible repeat (first | apply Kd.V_alloc | apply Kd.V_drewN | apply Kd.V_drew)); exact (Kd.V_mono (Kd.V_far (p := ⟨gb399, 4, none⟩) (Kd.V_far (p := ⟨gb399, 3, none⟩) (Kd.V_far (p := ⟨gb399, 2, none⟩) (Kd.V_far (p := ⟨gb399, 1, none⟩) (Kd.V_far (p := ⟨gb399, 0, none⟩) (Kd.V_mono HO384.out (fun k_ hk => (⟨hk, hk.2⟩ : _ ∧ k_ ≠ gb399))) (fun _ hk => hk.2) (.slice Ao18 t389.length co18)) (fun _ hk => hk.2) (.bool t392)) (fun _ hk => hk.2) (.int .i64 t393)) (fun _ hk => hk.2) (.bool t394)) (fun _ hk => hk.2) (.bool t395)) (fun _ h_ => h_.1))) hb); have n1_ := Aside0.mk (Kd.V_below (by (with_reducible repeat (first | apply Kd.V_alloc | apply Kd.V_drewN | apply Kd.V_drew)); exact (Kd.V_mono (Kd.V_far (p := ⟨gb399, 4, none⟩) (Kd.V_far (p := ⟨gb399, 3, none⟩) (Kd.V_far (p := ⟨gb399, 2, none⟩) (Kd.V_far (p := ⟨gb399, 1, none⟩) (Kd.V_far (p := ⟨gb399, 0, none⟩) (Kd.V_mono HO391.out (fun k_ hk => (⟨hk, hk.2⟩ : _ ∧ k_ ≠ gb399))) (fun _ hk => hk.2) (.slice Ao18 t389.length co18)) (fun _ hk => hk.2) (.bool t392)) (fun _ hk => hk.2) (.int .i64 t393)) (fun _ hk => hk.2) (.bool t394)) (fun _ hk => hk.2) (.bool t395)) (fun _ h_ => h_.1))) hb); have n2_ := Aside0.mk (Kd.V_below (by (with_reducible repeat (first | apply Kd.V_alloc | apply Kd.V_drewN | apply Kd.V_drew)); exact (Kd.V_mono (Kd.V_far (p := ⟨gb399, 4, none⟩) (Kd.V_far (p := ⟨gb399, 3, none⟩) (Kd.V_far (p := ⟨gb399, 2, none⟩) (Kd.V_far (p := ⟨gb399, 1, none⟩) (Kd.V_far (p := ⟨gb399, 0, none⟩) (Kd.V_mono HO398.out (fun k_ hk => (⟨hk, hk.2⟩ : _ ∧ k_ ≠ gb399))) (fun _ hk => hk.2) (.slice Ao18 t389.length co18)) (fun _ hk => hk.2) (.bool t392)) (fun _ hk => hk.2) (.int .i64 t393)) (fun _ hk => hk.2) (.bool t394)) (fun _ hk => hk.2) (.bool t395)) (fun _ h_ => h_.1))) hb); have n3_ := Aside0.mk (blk_below (g := gb380) (o := .cells #[.slice A0_0 l0_0.length c0_0, .bool a0_1, .int .i64 a0_2, .bool a0_3, .bool a0_4] 48 (0, 0)) (by (with_reducible repeat (first | refine blk_drewN ?_ _ | refine blk_drew ?_ | refine blk_alloc ?_ _)); refine blk_far ?_ NB380_399.out _; (with_reducible repeat (first | refine blk_drewN ?_ _ | refine blk_drew ?_ | refine blk_alloc ?_ _)); refine blk_far ?_ NB380_399.out _; (with_reducible repeat (first | refine blk_drewN ?_ _ | refine blk_drew ?_ | refine blk_alloc ?_ _)); refine blk_far ?_ NB380_399.out _; (with_reducible repeat (first | refine blk_drewN ?_ _ | refine blk_drew ?_ | refine blk_alloc ?_ _)); refine blk_far ?_ NB380_399.out _; (with_reducible repeat (first | refine blk_drewN ?_ _ | refine blk_drew ?_ | refine blk_alloc ?_ _)); refine blk_far ?_ NB380_399.out _; (with_reducible repeat (first | refine blk_drewN ?_ _ | refine blk_drew ?_ | refine blk_alloc ?_ _)); exact BK380.out) hb); have n4_ := Aside0.mk (blk_below (g := gb399) (o := .cells #[.slice Ao18 t389.length co18, .bool t392, .int .i64 t393, .bool t394, .bool t395] 51 (0, 0)) (by (with_reducible repeat (first | refine blk_drewN ?_ _ | refine blk_drew ?_ | refine blk_alloc ?_ _)); refine blk_put (cs := #[.slice Ao18 t389.length co18, .bool t392, .int .i64 t393, .bool t394, .bool false]) ?_ 4 _ rfl; (with_reducible repeat (first | refine blk_drewN ?_ _ | refine blk_drew ?_ | refine blk_alloc ?_ _)); refine blk_put (cs := #[.slice Ao18 t389.length co18, .bool t392, .int .i64 t393, .bool false, .bool false]) ?_ 3 _ rfl; (with_reducible repeat (first | refine blk_drewN ?_ _ | refine blk_drew ?_ | refine blk_alloc ?_ _)); refine blk_put (cs := #[.slice Ao18 t389.length co18, .bool t392, .int .i64 0, .bool false, .bool false]) ?_ 2 _ rfl; (with_reducible repeat (first | refine blk_drewN ?_ _ | refine blk_drew ?_ | refine blk_alloc ?_ _)); refine blk_put (cs := #[.slice Ao18 t389.length co18, .bool false, .int .i64 0, .bool false, .bool false]) ?_ 1 _ rfl; (with_reducible repeat (first | refine blk_drewN ?_ _ | refine blk_drew ?_ | refine blk_alloc ?_ _)); refine blk_put (cs := #[.slice none 0 0, .bool false, .int .i64 0, .bool false, .bool false]) ?_ 0 _ rfl; (with_reducible repeat (first | refine blk_drewN ?_ _ | refine blk_drew ?_ | refine blk_alloc ?_ _)); exact BK399.out) hb); have n5_ := Aside0.mk (below_step (by repeat (first | (with_reducible first | exact HB.out | apply below_alloc | apply pw_below_drewN | apply below_drew1 | refine below_set ?_ GE380.out | refine below_set ?_ GE399.out) | exact HB.out)) hb); clear HO384; clear HO391; clear HO398; clear BK380; clear BK399; clear HB; have HO384 := n0_; have HO391 := n1_; have HO398 := n2_; have BK380 := n3_; have BK399 := n4_; have HB := n5_; clear n0_ n1_ n2_ n3_ n4_ n5_; (try clear hb); (try clear hb2); (try clear hk); (try clear hi); have hcz34_0 : w33.cell? ⟨gb399, 0, none⟩ = some (.slice Ao18 t389.length co18) := (blk_cell BK399.out 0).trans rfl; have hcz34_1 : w33.cell? ⟨gb399, 1, none⟩ = some (.bool t392) := (blk_cell BK399.out 1).trans rfl; have hcz34_2 : w33.cell? ⟨gb399, 2, none⟩ = some (.int .i64 t393) := (blk_cell BK399.out 2).trans rfl; have hcz34_3 : w33.cell? ⟨gb399, 3, none⟩ = some (.bool t394) := (blk_cell BK399.out 3).trans rfl; have hcz34_4 : w33.cell? ⟨gb399, 4, none⟩ = some (.bool t395) := (blk_cell BK399.out 4).trans rfl; have hfz34_0 := blk_frozen BK399.out 0; have hfz34_1 := blk_frozen BK399.out 1; have hfz34_2 := blk_frozen BK399.out 2; have hfz34_3 := blk_frozen BK399.out 3; have hfz34_4 := blk_frozen BK399.out 4; have p401 : 0 ≤ ((ji28) : Int) := of_decide_eq_true (by first | (with_reducible assumption) | assumption); have q401 : (ji28) < (t389.length : Int) := of_decide_eq_true (by first | (with_reducible assumption) | assumption); obtain ⟨ad401, e401, hx401_0⟩ := Kd.at_int (Kd.V_reads' HO391.out).2.2 (ji28) p401 q401; cases e401; replace p401 := eq_true p401; replace q401 := eq_true q401))
              go_meet
              case rel => exact ⟨_, (((rd t389 (ji28)) != a1)), (by first | rfl | (simp; done) | (simp only [← hji28] <;> (first | rfl | simp)) | (simp [*]; done)), H', ⟨by first | omega | exact Nat.le_refl _⟩, ⟨by (with_reducible repeat (first | apply Kd.V_alloc | apply Kd.V_drewN | apply Kd.V_drew)); exact HO398.out⟩, ⟨by (with_reducible repeat (first | apply Kd.V_alloc | apply Kd.V_drewN | apply Kd.V_drew)); exact HO391.out⟩, ⟨by (with_reducible repeat (first | refine blk_drewN ?_ _ | refine blk_drew ?_ | refine blk_alloc ?_ _)); exact BK380.out⟩, ⟨by (with_reducible repeat (first | refine blk_drewN ?_ _ | refine blk_drew ?_ | refine blk_alloc ?_ _)); exact BK399.out⟩, ⟨by repeat (first | (with_reducible first | exact HB.out | apply below_alloc | apply pw_below_drewN | apply below_drew1 | refine below_set ?_ GE380.out | refine below_set ?_ GE399.out) | exact HB.out)⟩⟩
            · rw [if_neg c30] at H
              exact absurd H (by simp)
          · rw [if_neg c29] at H
            exact absurd H (by simp)
      · replace c22 := Bool.eq_false_iff.mpr c22
        subst c22
        have H1 : (pentroughlaw12_SegKeeps.j0 k t381 t396 true l0_0 a0_1 a0_2 a0_3 a0_4 t389 t392 t393 t394 t395) = some r := by rw [if_neg (show ¬ (false = true) by decide)] at H; exact H
        clear H
        have H := H1
        clear H1
        have H' := Aside0.mk H
        clear H
        have hnb35 := NB399_380.out
        have hnc35 := NB380_399.out
        have hcz36_0 : w17.cell? ⟨gb399, 0, none⟩ = some (.slice none 0 0) := (blk_cell BK399.out 0).trans rfl
        have hcz36_1 : w17.cell? ⟨gb399, 1, none⟩ = some (.bool false) := (blk_cell BK399.out 1).trans rfl
        have hcz36_2 : w17.cell? ⟨gb399, 2, none⟩ = some (.int .i64 0) := (blk_cell BK399.out 2).trans rfl
        have hcz36_3 : w17.cell? ⟨gb399, 3, none⟩ = some (.bool false) := (blk_cell BK399.out 3).trans rfl
        have hcz36_4 : w17.cell? ⟨gb399, 4, none⟩ = some (.bool false) := (blk_cell BK399.out 4).trans rfl
        have hfz36_0 := blk_frozen BK399.out 0
        have hfz36_1 := blk_frozen BK399.out 1
        have hfz36_2 := blk_frozen BK399.out 2
        have hfz36_3 := blk_frozen BK399.out 3
        have hfz36_4 := blk_frozen BK399.out 4
        go_wp2_with (first | ((with_reducible refine gate_callee (f := 32) rfl ?_); refine goesL_ (some 22) rfl rfl Try.func32 (by kernel_rfl) rfl #[.agg #[.slice Ao18 t389.length co18, .bool t392, .int .i64 t393, .bool t394, .bool t395]] rfl (by (try simp only [List.map_toArray, List.map_cons, List.map_nil]); first | done | rfl | (simp only [List.length_drop, List.length_take]; rfl)) ?_; (with_reducible refine (seg_Sane.calls k _ _ t389 t392 t393 t394 t395 false _ ?side1 ?side2 A21.out).mono ?_); (case side1 => refine (Kd.V_reads' (e := 3) (base := w.heap.size) (ok := fun k_ => (k_ ≠ gb380 ∧ k_ ≠ gb399)) (n := t389.length) (c := co18) ?_).2.2; exact (by (with_reducible repeat (first | apply Kd.V_alloc | apply Kd.V_drewN | apply Kd.V_drew)); exact (Kd.V_mono (Kd.V_far (p := ⟨gb399, 4, none⟩) (Kd.V_far (p := ⟨gb399, 3, none⟩) (Kd.V_far (p := ⟨gb399, 2, none⟩) (Kd.V_far (p := ⟨gb399, 1, none⟩) (Kd.V_far (p := ⟨gb399, 0, none⟩) (Kd.V_mono HO391.out (fun k_ hk => (⟨hk, hk.2⟩ : _ ∧ k_ ≠ gb399))) (fun _ hk => hk.2) (.slice Ao18 t389.length co18)) (fun _ hk => hk.2) (.bool t392)) (fun _ hk => hk.2) (.int .i64 t393)) (fun _ hk => hk.2) (.bool t394)) (fun _ hk => hk.2) (.bool t395)) (fun _ h_ => h_.1)))); (case side2 => exact (Kd.V_reads' HO391.out).2.1); rintro e w37 ⟨rfl, hb⟩; refine ⟨_, rfl, ?_⟩; have n0_ := Aside0.mk (Kd.V_below (by (with_reducible repeat (first | apply Kd.V_alloc | apply Kd.V_drewN | apply Kd.V_drew)); exact (Kd.V_mono (Kd.V_far (p := ⟨gb399, 4, none⟩) (Kd.V_far (p := ⟨gb399, 3, none⟩) (Kd.V_far (p := ⟨gb399, 2, none⟩) (Kd.V_far (p := ⟨gb399, 1, none⟩) (Kd.V_far (p := ⟨gb399, 0, none⟩) (Kd.V_mono HO384.out (fun k_ hk => (⟨hk, hk.2⟩ : _ ∧ k_ ≠ gb399))) (fun _ hk => hk.2) (.slice Ao18 t389.length co18)) (fun _ hk => hk.2) (.bool t392)) (fun _ hk => hk.2) (.int .i64 t393)) (fun _ hk => hk.2) (.bool t394)) (fun _ hk => hk.2) (.bool t395)) (fun _ h_ => h_.1))) hb); have n1_ := Aside0.mk (Kd.V_below (by (with_reducible repeat (first | apply Kd.V_alloc | apply Kd.V_drewN | apply Kd.V_drew)); exact (Kd.V_mono (Kd.V_far (p := ⟨gb399, 4, none⟩) (Kd.V_far (p := ⟨gb399, 3, none⟩) (Kd.V_far (p := ⟨gb399, 2, none⟩) (Kd.V_far (p := ⟨gb399, 1, none⟩) (Kd.V_far (p := ⟨gb399, 0, none⟩) (Kd.V_mono HO391.out (fun k_ hk => (⟨hk, hk.2⟩ : _ ∧ k_ ≠ gb399))) (fun _ hk => hk.2) (.slice Ao18 t389.length co18)) (fun _ hk => hk.2) (.bool t392)) (fun _ hk => hk.2) (.int .i64 t393)) (fun _ hk => hk.2) (.bool t394)) (fun _ hk => hk.2) (.bool t395)) (fun _ h_ => h_.1))) hb); have n2_ := Aside0.mk (Kd.V_below (by (with_reducible repeat (first | apply Kd.V_alloc | apply Kd.V_drewN | apply Kd.V_drew)); exact (Kd.V_mono (Kd.V_far (p := ⟨gb399, 4, none⟩) (Kd.V_far (p := ⟨gb399, 3, none⟩) (Kd.V_far (p := ⟨gb399, 2, none⟩) (Kd.V_far (p := ⟨gb399, 1, none⟩) (Kd.V_far (p := ⟨gb399, 0, none⟩) (Kd.V_mono HO398.out (fun k_ hk => (⟨hk, hk.2⟩ : _ ∧ k_ ≠ gb399))) (fun _ hk => hk.2) (.slice Ao18 t389.length co18)) (fun _ hk => hk.2) (.bool t392)) (fun _ hk => hk.2) (.int .i64 t393)) (fun _ hk => hk.2) (.bool t394)) (fun _ hk => hk.2) (.bool t395)) (fun _ h_ => h_.1))) hb); have n3_ := Aside0.mk (blk_below (g := gb380) (o := .cells #[.slice A0_0 l0_0.length c0_0, .bool a0_1, .int .i64 a0_2, .bool a0_3, .bool a0_4] 48 (0, 0)) (by (with_reducible repeat (first | refine blk_drewN ?_ _ | refine blk_drew ?_ | refine blk_alloc ?_ _)); refine blk_far ?_ NB380_399.out _; (with_reducible repeat (first | refine blk_drewN ?_ _ | refine blk_drew ?_ | refine blk_alloc ?_ _)); refine blk_far ?_ NB380_399.out _; (with_reducible repeat (first | refine blk_drewN ?_ _ | refine blk_drew ?_ | refine blk_alloc ?_ _)); refine blk_far ?_ NB380_399.out _; (with_reducible repeat (first | refine blk_drewN ?_ _ | refine blk_drew ?_ | refine blk_alloc ?_ _)); refine blk_far ?_ NB380_399.out _; (with_reducible repeat (first | refine blk_drewN ?_ _ | refine blk_drew ?_ | refine blk_alloc ?_ _)); refine blk_far ?_ NB380_399.out _; (with_reducible repeat (first | refine blk_drewN ?_ _ | refine blk_drew ?_ | refine blk_alloc ?_ _)); exact BK380.out) hb); have n4_ := Aside0.mk (blk_below (g := gb399) (o := .cells #[.slice Ao18 t389.length co18, .bool t392, .int .i64 t393, .bool t394, .bool t395] 51 (0, 0)) (by (with_reducible repeat (first | refine blk_drewN ?_ _ | refine blk_drew ?_ | refine blk_alloc ?_ _)); refine blk_put (cs := #[.slice Ao18 t389.length co18, .bool t392, .int .i64 t393, .bool t394, .bool false]) ?_ 4 _ rfl; (with_reducible repeat (first | refine blk_drewN ?_ _ | refine blk_drew ?_ | refine blk_alloc ?_ _)); refine blk_put (cs := #[.slice Ao18 t389.length co18, .bool t392, .int .i64 t393, .bool false, .bool false]) ?_ 3 _ rfl; (with_reducible repeat (first | refine blk_drewN ?_ _ | refine blk_drew ?_ | refine blk_alloc ?_ _)); refine blk_put (cs := #[.slice Ao18 t389.length co18, .bool t392, .int .i64 0, .bool false, .bool false]) ?_ 2 _ rfl; (with_reducible repeat (first | refine blk_drewN ?_ _ | refine blk_drew ?_ | refine blk_alloc ?_ _)); refine blk_put (cs := #[.slice Ao18 t389.length co18, .bool false, .int .i64 0, .bool false, .bool false]) ?_ 1 _ rfl; (with_reducible repeat (first | refine blk_drewN ?_ _ | refine blk_drew ?_ | refine blk_alloc ?_ _)); refine blk_put (cs := #[.slice none 0 0, .bool false, .int .i64 0, .bool false, .bool false]) ?_ 0 _ rfl; (with_reducible repeat (first | refine blk_drewN ?_ _ | refine blk_drew ?_ | refine blk_alloc ?_ _)); exact BK399.out) hb); have n5_ := Aside0.mk (below_step (by repeat (first | (with_reducible first | exact HB.out | apply below_alloc | apply pw_below_drewN | apply below_drew1 | refine below_set ?_ GE380.out | refine below_set ?_ GE399.out) | exact HB.out)) hb); clear HO384; clear HO391; clear HO398; clear BK380; clear BK399; clear HB; have HO384 := n0_; have HO391 := n1_; have HO398 := n2_; have BK380 := n3_; have BK399 := n4_; have HB := n5_; clear n0_ n1_ n2_ n3_ n4_ n5_; (try clear hb); (try clear hb2); (try clear hk); (try clear hi)))
        go_meet
        case rel => exact ⟨_, (true), (by first | rfl | (simp; done) | (simp [*]; done)), H', ⟨by first | omega | exact Nat.le_refl _⟩, ⟨by (with_reducible repeat (first | apply Kd.V_alloc | apply Kd.V_drewN | apply Kd.V_drew)); exact HO398.out⟩, ⟨by (with_reducible repeat (first | apply Kd.V_alloc | apply Kd.V_drewN | apply Kd.V_drew)); exact HO391.out⟩, ⟨by (with_reducible repeat (first | refine blk_drewN ?_ _ | refine blk_drew ?_ | refine blk_alloc ?_ _)); exact BK380.out⟩, ⟨by (with_reducible repeat (first | refine blk_drewN ?_ _ | refine blk_drew ?_ | refine blk_alloc ?_ _)); exact BK399.out⟩, ⟨by repeat (first | (with_reducible first | exact HB.out | apply below_alloc | apply pw_below_drewN | apply below_drew1 | refine below_set ?_ GE380.out | refine below_set ?_ GE399.out) | exact HB.out)⟩⟩
    case rest =>
      clear HC10
      try clear c1
      try clear c2
      try clear p2
      try clear c3
      try clear c4
      try clear c4b0
      try clear c4b1
      try clear p4
      try clear q4
      try clear hx4
      try clear p6
      try clear c8
      try clear c19
      try clear c22
      try clear c23
      try clear c23b0
      try clear c23b1
      try clear c24
      try clear c27
      try clear c29
      try clear c29b0
      try clear c30
      try clear c30b0
      try clear c31
      try clear c32
      try clear c35
      try clear hcz13_0
      try clear hcz13_1
      try clear hcz13_2
      try clear hcz13_3
      try clear hcz13_4
      try clear hcz20_0
      try clear hcz20_1
      try clear hcz20_2
      try clear hcz20_3
      try clear hcz20_4
      try clear hcz25_0
      try clear hcz25_1
      try clear hcz25_2
      try clear hcz25_3
      try clear hcz25_4
      try clear hcz27_0
      try clear hcz27_1
      try clear hcz27_2
      try clear hcz27_3
      try clear hcz27_4
      try clear hcz32_0
      try clear hcz32_1
      try clear hcz32_2
      try clear hcz32_3
      try clear hcz32_4
      try clear hcz34_0
      try clear hcz34_1
      try clear hcz34_2
      try clear hcz34_3
      try clear hcz34_4
      try clear hcz36_0
      try clear hcz36_1
      try clear hcz36_2
      try clear hcz36_3
      try clear hcz36_4
      try clear hcz7_0
      try clear hcz7_1
      try clear hcz7_2
      try clear hcz7_3
      try clear hcz7_4
      try clear hfz13_0
      try clear hfz13_1
      try clear hfz13_2
      try clear hfz13_3
      try clear hfz13_4
      try clear hfz20_0
      try clear hfz20_1
      try clear hfz20_2
      try clear hfz20_3
      try clear hfz20_4
      try clear hfz25_0
      try clear hfz25_1
      try clear hfz25_2
      try clear hfz25_3
      try clear hfz25_4
      try clear hfz27_0
      try clear hfz27_1
      try clear hfz27_2
      try clear hfz27_3
      try clear hfz27_4
      try clear hfz32_0
      try clear hfz32_1
      try clear hfz32_2
      try clear hfz32_3
      try clear hfz32_4
      try clear hfz34_0
      try clear hfz34_1
      try clear hfz34_2
      try clear hfz34_3
      try clear hfz34_4
      try clear hfz36_0
      try clear hfz36_1
      try clear hfz36_2
      try clear hfz36_3
      try clear hfz36_4
      try clear hfz7_0
      try clear hfz7_1
      try clear hfz7_2
      try clear hfz7_3
      try clear hfz7_4
      try clear hx401_0
      try clear p401
      try clear q401
      obtain ⟨kq, x41_9, rfl, HA, HJ9, HO_7, HO_400000, BK380, BK399, HB⟩ := hcut
      cases kq with
      | zero => exact absurd HA.out (by simp [pentroughlaw12_SegKeeps.j0])
      | succ kj9 =>
        have H := HA.out
        clear HA
        simp only [pentroughlaw12_SegKeeps.j0] at H
        by_cases c38 : x41_9 = true
        · subst c38
          have H1 : (some false) = some r := by rw [if_pos rfl] at H; exact H
          clear H
          have H := H1
          clear H1
          obtain rfl := Option.some.inj H
          go_wp2
          go_ret
          exact ⟨by first | rfl | (simp [errW_none, errW_some] <;> rfl) | (simp [*, errW_none, errW_some] <;> rfl), by repeat (first | (with_reducible first | exact HB.out | apply below_alloc | apply pw_below_drewN | apply below_drew1 | refine below_set ?_ GE380.out | refine below_set ?_ GE399.out) | exact HB.out)⟩
        · replace c38 := Bool.eq_false_iff.mpr c38
          subst c38
          have H1 : (if (t396.length : Int) > 0 then (if t381 = true then (if (t389.length : Int) = 1 then ((pentroughref01_Same.f kj9 t396 l0_0).bind fun t402 => (if t402 = true then ((pentroughlaw12_ours.f l0_0 a0_1 a0_2 a0_3 a0_4).bind fun bt403 => ((seg_Sane.f kj9 bt403.1 bt403.2.1 bt403.2.2.1 bt403.2.2.2.1 bt403.2.2.2.2).bind fun t410 => (some t410))) else (some false))) else (some false)) else (some false)) else (if t381 = true then ((pentroughlaw12_ours.f l0_0 a0_1 a0_2 a0_3 a0_4).bind fun bt411 => ((seg_Sane.f kj9 bt411.1 bt411.2.1 bt411.2.2.1 bt411.2.2.2.1 bt411.2.2.2.2).bind fun t418 => (if t418 = true then ((pentroughlaw12_ours.f l0_0 a0_1 a0_2 a0_3 a0_4).bind fun bt419 => ((seg_Sane.f kj9 bt419.1 bt419.2.1 bt419.2.2.1 bt419.2.2.2.1 bt419.2.2.2.2).bind fun t426 => (if t426 = true then (some ((t389.length : Int) == (wrap64 ((l0_0.length : Int) + 1)))) else (some false)))) else (if (t389.length : Int) = 1 then (some true) else ((pentroughlaw12_ours.f l0_0 a0_1 a0_2 a0_3 a0_4).bind fun bt427 => ((seg_Sane.f kj9 bt427.1 bt427.2.1 bt427.2.2.1 bt427.2.2.2.1 bt427.2.2.2.2).bind fun t434 => (if t434 = true then (some ((t389.length : Int) == (wrap64 ((l0_0.length : Int) + 1)))) else (some false)))))))) else (some false))) = some r := by rw [if_neg (show ¬ (false = true) by decide)] at H; exact H
          clear H
          have H := H1
          clear H1
          by_cases c39 : (t396.length : Int) > 0
          · rw [if_pos c39] at H
            have c39b0 : decide (0 < (t396.length : Int)) = true := decide_eq_true c39
            have c39b1 : decide (0 < t396.length) = true := decide_eq_true (by omega)
            clear c39
            by_cases c40 : t381 = true
            · subst c40
              have H1 : (if (t389.length : Int) = 1 then ((pentroughref01_Same.f kj9 t396 l0_0).bind fun t402 => (if t402 = true then ((pentroughlaw12_ours.f l0_0 a0_1 a0_2 a0_3 a0_4).bind fun bt403 => ((seg_Sane.f kj9 bt403.1 bt403.2.1 bt403.2.2.1 bt403.2.2.2.1 bt403.2.2.2.2).bind fun t410 => (some t410))) else (some false))) else (some false)) = some r := by rw [if_pos rfl] at H; exact H
              clear H
              have H := H1
              clear H1
              by_cases c41 : (t389.length : Int) = 1
              · rw [if_pos c41] at H
                have c41b0 : ((t389.length : Int) == 1) = true := beq_iff_eq.mpr c41
                have c41b1 : ((t389.length : Int) != 1) = false := bne_eq_false_iff_eq.mpr c41
                clear c41
                replace H := Option.bind_eq_some_iff.mp H
                obtain ⟨t402, A420, H⟩ := H
                replace H : (if t402 = true then ((pentroughlaw12_ours.f l0_0 a0_1 a0_2 a0_3 a0_4).bind fun bt403 => ((seg_Sane.f kj9 bt403.1 bt403.2.1 bt403.2.2.1 bt403.2.2.2.1 bt403.2.2.2.2).bind fun t410 => (some t410))) else (some false)) = some r := H
                have A42 := Aside0.mk A420
                clear A420
                by_cases c43 : t402 = true
                · subst c43
                  have H1 : ((pentroughlaw12_ours.f l0_0 a0_1 a0_2 a0_3 a0_4).bind fun bt403 => ((seg_Sane.f kj9 bt403.1 bt403.2.1 bt403.2.2.1 bt403.2.2.2.1 bt403.2.2.2.2).bind fun t410 => (some t410))) = some r := by rw [if_pos rfl] at H; exact H
                  clear H
                  have H := H1
                  clear H1
                  replace H := Option.bind_eq_some_iff.mp H
                  obtain ⟨⟨t403, t406, t407, t408, t409⟩, A440, H⟩ := H
                  replace H : ((seg_Sane.f kj9 t403 t406 t407 t408 t409).bind fun t410 => (some t410)) = some r := H
                  have A44 := Aside0.mk A440
                  clear A440
                  replace H := Option.bind_eq_some_iff.mp H
                  obtain ⟨t410, A450, H⟩ := H
                  replace H : (some t410) = some r := H
                  have A45 := Aside0.mk A450
                  clear A450
                  obtain rfl := Option.some.inj H
                  obtain ⟨Ao46, co46, eo46⟩ := Kd.V_slice HO_7.out
                  subst eo46
                  have hnb47 := NB399_380.out
                  have hnc47 := NB380_399.out
                  have hcz48_0 : wc.cell? ⟨gb399, 0, none⟩ = some (.slice Ao18 t389.length co18) := (blk_cell BK399.out 0).trans rfl
                  have hcz48_1 : wc.cell? ⟨gb399, 1, none⟩ = some (.bool t392) := (blk_cell BK399.out 1).trans rfl
                  have hcz48_2 : wc.cell? ⟨gb399, 2, none⟩ = some (.int .i64 t393) := (blk_cell BK399.out 2).trans rfl
                  have hcz48_3 : wc.cell? ⟨gb399, 3, none⟩ = some (.bool t394) := (blk_cell BK399.out 3).trans rfl
                  have hcz48_4 : wc.cell? ⟨gb399, 4, none⟩ = some (.bool t395) := (blk_cell BK399.out 4).trans rfl
                  have hfz48_0 := blk_frozen BK399.out 0
                  have hfz48_1 := blk_frozen BK399.out 1
                  have hfz48_2 := blk_frozen BK399.out 2
                  have hfz48_3 := blk_frozen BK399.out 3
                  have hfz48_4 := blk_frozen BK399.out 4
                  have hcz49_0 : wc.cell? ⟨gb380, 0, none⟩ = some (.slice A0_0 l0_0.length c0_0) := (blk_cell BK380.out 0).trans rfl
                  have hcz49_1 : wc.cell? ⟨gb380, 1, none⟩ = some (.bool a0_1) := (blk_cell BK380.out 1).trans rfl
                  have hcz49_2 : wc.cell? ⟨gb380, 2, none⟩ = some (.int .i64 a0_2) := (blk_cell BK380.out 2).trans rfl
                  have hcz49_3 : wc.cell? ⟨gb380, 3, none⟩ = some (.bool a0_3) := (blk_cell BK380.out 3).trans rfl
                  have hcz49_4 : wc.cell? ⟨gb380, 4, none⟩ = some (.bool a0_4) := (blk_cell BK380.out 4).trans rfl
                  have hfz49_0 := blk_frozen BK380.out 0
                  have hfz49_1 := blk_frozen BK380.out 1
                  have hfz49_2 := blk_frozen BK380.out 2
                  have hfz49_3 := blk_frozen BK380.out 3
                  have hfz49_4 := blk_frozen BK380.out 4
                  go_wp2_with (first | (go_at_call 29; (with_reducible refine (pentroughref01_Same.calls kj9 _ _ t396 _ _ l0_0 true _ ?side1 ?side2 ?side3 ?side4 A42.out).mono ?_); (case side1 => repeat (first | exact (Kd.V_reads' HO_7.out).2.2 | (with_reducible refine Kd.C_alloc ?_ _) | (with_reducible refine Kd.C_drewN ?_ _) | (with_reducible refine Kd.C_drew ?_))); (case side2 => exact (Kd.V_reads' HO_7.out).2.1); (case side3 => repeat (first | exact (Kd.C_below HR0_0.out HB.out) | (with_reducible refine Kd.C_alloc ?_ _) | (with_reducible refine Kd.C_drewN ?_ _) | (with_reducible refine Kd.C_drew ?_))); (case side4 => exact HC0_0.out); rintro e w' ⟨rfl, ⟨nd, rfl⟩⟩) | (go_at_call 31; (with_reducible refine (pentroughlaw12_ours.calls (fun k_ => k_ < w.heap.size) _ _ l0_0 a0_1 a0_2 a0_3 a0_4 t403 t406 t407 t408 t409 _ ?side1 A44.out).mono ?_); (case side1 => exact Kd.V_mk HC0_0.out (Kd.F_below (Kd.C_F (Kd.heap_int .i64) HR0_0.out) (by repeat (first | (with_reducible first | exact HB.out | apply below_alloc | apply pw_below_drewN | apply below_drew1 | refine below_set ?_ GE380.out | refine below_set ?_ GE399.out) | exact HB.out)))); rintro e w50 ⟨v404, rfl, ho0, hb⟩; have n0_ := Aside0.mk (Kd.V_below (by (with_reducible repeat (first | apply Kd.V_alloc | apply Kd.V_drewN | apply Kd.V_drew)); exact HO_7.out) hb); have n1_ := Aside0.mk (Kd.V_below (by (with_reducible repeat (first | apply Kd.V_alloc | apply Kd.V_drewN | apply Kd.V_drew)); exact HO_400000.out) hb); have n2_ := Aside0.mk (Kd.V_lower (Kd.V_mono (ok' := fun k_ => k_ ≠ gb380 ∧ k_ ≠ gb399) ho0 (fun k_ hk_ => ⟨Or.elim hk_ (fun hs_ => fun e_ => Nat.not_le.2 hs_ (by rw [e_]; exact GW380.out)) (fun hn_ => (Kd.freshB (g := gb380) (o := .cells #[.slice A0_0 l0_0.length c0_0, .bool a0_1, .int .i64 a0_2, .bool a0_3, .bool a0_4] 48 (0, 0)) (by (with_reducible repeat (first | refine blk_drewN ?_ _ | refine blk_drew ?_ | refine blk_alloc ?_ _)); exact BK380.out) k_ hn_)), Or.elim hk_ (fun hs_ => fun e_ => Nat.not_le.2 hs_ (by rw [e_]; exact GW399.out)) (fun hn_ => (Kd.freshB (g := gb399) (o := .cells #[.slice Ao18 t389.length co18, .bool t392, .int .i64 t393, .bool t394, .bool t395] 51 (0, 0)) (by (with_reducible repeat (first | refine blk_drewN ?_ _ | refine blk_drew ?_ | refine blk_alloc ?_ _)); exact BK399.out) k_ hn_))⟩)) (below_size (by repeat (first | (with_reducible first | exact HB.out | apply below_alloc | apply pw_below_drewN | apply below_drew1 | refine below_set ?_ GE380.out | refine below_set ?_ GE399.out) | exact HB.out)))); have n3_ := Aside0.mk (blk_below (g := gb380) (o := .cells #[.slice A0_0 l0_0.length c0_0, .bool a0_1, .int .i64 a0_2, .bool a0_3, .bool a0_4] 48 (0, 0)) (by (with_reducible repeat (first | refine blk_drewN ?_ _ | refine blk_drew ?_ | refine blk_alloc ?_ _)); exact BK380.out) hb); have n4_ := Aside0.mk (blk_below (g := gb399) (o := .cells #[.slice Ao18 t389.length co18, .bool t392, .int .i64 t393, .bool t394, .bool t395] 51 (0, 0)) (by (with_reducible repeat (first | refine blk_drewN ?_ _ | refine blk_drew ?_ | refine blk_alloc ?_ _)); exact BK399.out) hb); have n5_ := Aside0.mk (below_step (by repeat (first | (with_reducible first | exact HB.out | apply below_alloc | apply pw_below_drewN | apply below_drew1 | refine below_set ?_ GE380.out | refine below_set ?_ GE399.out) | exact HB.out)) hb); clear HO_7; clear HO_400000; clear BK380; clear BK399; clear HB; have HO_7 := n0_; have HO_400000 := n1_; have HO405 := n2_; have BK380 := n3_; have BK399 := n4_; have HB := n5_; clear n0_ n1_ n2_ n3_ n4_ n5_; (try clear hb); (try clear hb2); (try clear hk); (try clear hi); (try clear ho0); obtain ⟨Ao51, co51, eo51⟩ := Kd.V_slice HO405.out; subst eo51) | (go_at_call 32; (with_reducible refine (seg_Sane.calls kj9 _ _ t403 t406 t407 t408 t409 t410 _ ?side1 ?side2 A45.out).mono ?_); (case side1 => repeat (first | exact (Kd.V_reads' HO405.out).2.2 | (with_reducible refine Kd.C_alloc ?_ _) | (with_reducible refine Kd.C_drewN ?_ _) | (with_reducible refine Kd.C_drew ?_))); (case side2 => exact (Kd.V_reads' HO405.out).2.1); rintro e w52 ⟨rfl, hb⟩; have n0_ := Aside0.mk (Kd.V_below (by (with_reducible repeat (first | apply Kd.V_alloc | apply Kd.V_drewN | apply Kd.V_drew)); exact HO_7.out) hb); have n1_ := Aside0.mk (Kd.V_below (by (with_reducible repeat (first | apply Kd.V_alloc | apply Kd.V_drewN | apply Kd.V_drew)); exact HO_400000.out) hb); have n2_ := Aside0.mk (Kd.V_below (by (with_reducible repeat (first | apply Kd.V_alloc | apply Kd.V_drewN | apply Kd.V_drew)); exact HO405.out) hb); have n3_ := Aside0.mk (blk_below (g := gb380) (o := .cells #[.slice A0_0 l0_0.length c0_0, .bool a0_1, .int .i64 a0_2, .bool a0_3, .bool a0_4] 48 (0, 0)) (by (with_reducible repeat (first | refine blk_drewN ?_ _ | refine blk_drew ?_ | refine blk_alloc ?_ _)); exact BK380.out) hb); have n4_ := Aside0.mk (blk_below (g := gb399) (o := .cells #[.slice Ao18 t389.length co18, .bool t392, .int .i64 t393, .bool t394, .bool t395] 51 (0, 0)) (by (with_reducible repeat (first | refine blk_drewN ?_ _ | refine blk_drew ?_ | refine blk_alloc ?_ _)); exact BK399.out) hb); have n5_ := Aside0.mk (below_step (by repeat (first | (with_reducible first | exact HB.out | apply below_alloc | apply pw_below_drewN | apply below_drew1 | refine below_set ?_ GE380.out | refine below_set ?_ GE399.out) | exact HB.out)) hb); clear HO_7; clear HO_400000; clear HO405; clear BK380; clear BK399; clear HB; have HO_7 := n0_; have HO_400000 := n1_; have HO405 := n2_; have BK380 := n3_; have BK399 := n4_; have HB := n5_; clear n0_ n1_ n2_ n3_ n4_ n5_; (try clear hb); (try clear hb2); (try clear hk); (try clear hi)))
                  go_ret
                  exact ⟨by first | rfl | (simp [errW_none, errW_some] <;> rfl) | (simp [*, errW_none, errW_some] <;> rfl), by repeat (first | (with_reducible first | exact HB.out | apply below_alloc | apply pw_below_drewN | apply below_drew1 | refine below_set ?_ GE380.out | refine below_set ?_ GE399.out) | exact HB.out)⟩
                · replace c43 := Bool.eq_false_iff.mpr c43
                  subst c43
                  have H1 : (some false) = some r := by rw [if_neg (show ¬ (false = true) by decide)] at H; exact H
                  clear H
                  have H := H1
                  clear H1
                  obtain rfl := Option.some.inj H
                  obtain ⟨Ao53, co53, eo53⟩ := Kd.V_slice HO_7.out
                  subst eo53
                  have hnb54 := NB399_380.out
                  have hnc54 := NB380_399.out
                  have hcz55_0 : wc.cell? ⟨gb399, 0, none⟩ = some (.slice Ao18 t389.length co18) := (blk_cell BK399.out 0).trans rfl
                  have hcz55_1 : wc.cell? ⟨gb399, 1, none⟩ = some (.bool t392) := (blk_cell BK399.out 1).trans rfl
                  have hcz55_2 : wc.cell? ⟨gb399, 2, none⟩ = some (.int .i64 t393) := (blk_cell BK399.out 2).trans rfl
                  have hcz55_3 : wc.cell? ⟨gb399, 3, none⟩ = some (.bool t394) := (blk_cell BK399.out 3).trans rfl
                  have hcz55_4 : wc.cell? ⟨gb399, 4, none⟩ = some (.bool t395) := (blk_cell BK399.out 4).trans rfl
                  have hfz55_0 := blk_frozen BK399.out 0
                  have hfz55_1 := blk_frozen BK399.out 1
                  have hfz55_2 := blk_frozen BK399.out 2
                  have hfz55_3 := blk_frozen BK399.out 3
                  have hfz55_4 := blk_frozen BK399.out 4
                  have hcz56_0 : wc.cell? ⟨gb380, 0, none⟩ = some (.slice A0_0 l0_0.length c0_0) := (blk_cell BK380.out 0).trans rfl
                  have hcz56_1 : wc.cell? ⟨gb380, 1, none⟩ = some (.bool a0_1) := (blk_cell BK380.out 1).trans rfl
                  have hcz56_2 : wc.cell? ⟨gb380, 2, none⟩ = some (.int .i64 a0_2) := (blk_cell BK380.out 2).trans rfl
                  have hcz56_3 : wc.cell? ⟨gb380, 3, none⟩ = some (.bool a0_3) := (blk_cell BK380.out 3).trans rfl
                  have hcz56_4 : wc.cell? ⟨gb380, 4, none⟩ = some (.bool a0_4) := (blk_cell BK380.out 4).trans rfl
                  have hfz56_0 := blk_frozen BK380.out 0
                  have hfz56_1 := blk_frozen BK380.out 1
                  have hfz56_2 := blk_frozen BK380.out 2
                  have hfz56_3 := blk_frozen BK380.out 3
                  have hfz56_4 := blk_frozen BK380.out 4
                  go_wp2_with (first | (go_at_call 29; (with_reducible refine (pentroughref01_Same.calls kj9 _ _ t396 _ _ l0_0 false _ ?side1 ?side2 ?side3 ?side4 A42.out).mono ?_); (case side1 => repeat (first | exact (Kd.V_reads' HO_7.out).2.2 | (with_reducible refine Kd.C_alloc ?_ _) | (with_reducible refine Kd.C_drewN ?_ _) | (with_reducible refine Kd.C_drew ?_))); (case side2 => exact (Kd.V_reads' HO_7.out).2.1); (case side3 => repeat (first | exact (Kd.C_below HR0_0.out HB.out) | (with_reducible refine Kd.C_alloc ?_ _) | (with_reducible refine Kd.C_drewN ?_ _) | (with_reducible refine Kd.C_drew ?_))); (case side4 => exact HC0_0.out); rintro e w' ⟨rfl, ⟨nd, rfl⟩⟩))
                  go_ret
                  exact ⟨by first | rfl | (simp [errW_none, errW_some] <;> rfl) | (simp [*, errW_none, errW_some] <;> rfl), by repeat (first | (with_reducible first | exact HB.out | apply below_alloc | apply pw_below_drewN | apply below_drew1 | refine below_set ?_ GE380.out | refine below_set ?_ GE399.out) | exact HB.out)⟩
              · rw [if_neg c41] at H
                have c41b0 : ((t389.length : Int) == 1) = false := beq_eq_false_iff_ne.mpr c41
                have c41b1 : ((t389.length : Int) != 1) = true := bne_iff_ne.mpr c41
                obtain rfl := Option.some.inj H
                obtain ⟨Ao57, co57, eo57⟩ := Kd.V_slice HO_7.out
                subst eo57
                have hnb58 := NB399_380.out
                have hnc58 := NB380_399.out
                have hcz59_0 : wc.cell? ⟨gb399, 0, none⟩ = some (.slice Ao18 t389.length co18) := (blk_cell BK399.out 0).trans rfl
                have hcz59_1 : wc.cell? ⟨gb399, 1, none⟩ = some (.bool t392) := (blk_cell BK399.out 1).trans rfl
                have hcz59_2 : wc.cell? ⟨gb399, 2, none⟩ = some (.int .i64 t393) := (blk_cell BK399.out 2).trans rfl
                have hcz59_3 : wc.cell? ⟨gb399, 3, none⟩ = some (.bool t394) := (blk_cell BK399.out 3).trans rfl
                have hcz59_4 : wc.cell? ⟨gb399, 4, none⟩ = some (.bool t395) := (blk_cell BK399.out 4).trans rfl
                have hfz59_0 := blk_frozen BK399.out 0
                have hfz59_1 := blk_frozen BK399.out 1
                have hfz59_2 := blk_frozen BK399.out 2
                have hfz59_3 := blk_frozen BK399.out 3
                have hfz59_4 := blk_frozen BK399.out 4
                go_wp2
                go_ret
                exact ⟨by first | rfl | (simp [errW_none, errW_some] <;> rfl) | (simp [*, errW_none, errW_some] <;> rfl), by repeat (first | (with_reducible first | exact HB.out | apply below_alloc | apply pw_below_drewN | apply below_drew1 | refine below_set ?_ GE380.out | refine below_set ?_ GE399.out) | exact HB.out)⟩
            · replace c40 := Bool.eq_false_iff.mpr c40
              subst c40
              have H1 : (some false) = some r := by rw [if_neg (show ¬ (false = true) by decide)] at H; exact H
              clear H
              have H := H1
              clear H1
              obtain rfl := Option.some.inj H
              obtain ⟨Ao60, co60, eo60⟩ := Kd.V_slice HO_7.out
              subst eo60
              go_wp2
              go_ret
              exact ⟨by first | rfl | (simp [errW_none, errW_some] <;> rfl) | (simp [*, errW_none, errW_some] <;> rfl), by repeat (first | (with_reducible first | exact HB.out | apply below_alloc | apply pw_below_drewN | apply below_drew1 | refine below_set ?_ GE380.out | refine below_set ?_ GE399.out) | exact HB.out)⟩
          · rw [if_neg c39] at H
            have c39b0 : decide (0 < (t396.length : Int)) = false := decide_eq_false c39
            have c39b1 : decide (0 < t396.length) = false := decide_eq_false (by omega)
            clear c39
            by_cases c61 : t381 = true
            · subst c61
              have H1 : ((pentroughlaw12_ours.f l0_0 a0_1 a0_2 a0_3 a0_4).bind fun bt411 => ((seg_Sane.f kj9 bt411.1 bt411.2.1 bt411.2.2.1 bt411.2.2.2.1 bt411.2.2.2.2).bind fun t418 => (if t418 = true then ((pentroughlaw12_ours.f l0_0 a0_1 a0_2 a0_3 a0_4).bind fun bt419 => ((seg_Sane.f kj9 bt419.1 bt419.2.1 bt419.2.2.1 bt419.2.2.2.1 bt419.2.2.2.2).bind fun t426 => (if t426 = true then (some ((t389.length : Int) == (wrap64 ((l0_0.length : Int) + 1)))) else (some false)))) else (if (t389.length : Int) = 1 then (some true) else ((pentroughlaw12_ours.f l0_0 a0_1 a0_2 a0_3 a0_4).bind fun bt427 => ((seg_Sane.f kj9 bt427.1 bt427.2.1 bt427.2.2.1 bt427.2.2.2.1 bt427.2.2.2.2).bind fun t434 => (if t434 = true then (some ((t389.length : Int) == (wrap64 ((l0_0.length : Int) + 1)))) else (some false)))))))) = some r := by rw [if_pos rfl] at H; exact H
              clear H
              have H := H1
              clear H1
              replace H := Option.bind_eq_some_iff.mp H
              obtain ⟨⟨t411, t414, t415, t416, t417⟩, A620, H⟩ := H
              replace H : ((seg_Sane.f kj9 t411 t414 t415 t416 t417).bind fun t418 => (if t418 = true then ((pentroughlaw12_ours.f l0_0 a0_1 a0_2 a0_3 a0_4).bind fun bt419 => ((seg_Sane.f kj9 bt419.1 bt419.2.1 bt419.2.2.1 bt419.2.2.2.1 bt419.2.2.2.2).bind fun t426 => (if t426 = true then (some ((t389.length : Int) == (wrap64 ((l0_0.length : Int) + 1)))) else (some false)))) else (if (t389.length : Int) = 1 then (some true) else ((pentroughlaw12_ours.f l0_0 a0_1 a0_2 a0_3 a0_4).bind fun bt427 => ((seg_Sane.f kj9 bt427.1 bt427.2.1 bt427.2.2.1 bt427.2.2.2.1 bt427.2.2.2.2).bind fun t434 => (if t434 = true then (some ((t389.length : Int) == (wrap64 ((l0_0.length : Int) + 1)))) else (some false))))))) = some r := H
              have A62 := Aside0.mk A620
              clear A620
              replace H := Option.bind_eq_some_iff.mp H
              obtain ⟨t418, A630, H⟩ := H
              replace H : (if t418 = true then ((pentroughlaw12_ours.f l0_0 a0_1 a0_2 a0_3 a0_4).bind fun bt419 => ((seg_Sane.f kj9 bt419.1 bt419.2.1 bt419.2.2.1 bt419.2.2.2.1 bt419.2.2.2.2).bind fun t426 => (if t426 = true then (some ((t389.length : Int) == (wrap64 ((l0_0.length : Int) + 1)))) else (some false)))) else (if (t389.length : Int) = 1 then (some true) else ((pentroughlaw12_ours.f l0_0 a0_1 a0_2 a0_3 a0_4).bind fun bt427 => ((seg_Sane.f kj9 bt427.1 bt427.2.1 bt427.2.2.1 bt427.2.2.2.1 bt427.2.2.2.2).bind fun t434 => (if t434 = true then (some ((t389.length : Int) == (wrap64 ((l0_0.length : Int) + 1)))) else (some false)))))) = some r := H
              have A63 := Aside0.mk A630
              clear A630
              by_cases c64 : t418 = true
              · subst c64
                have H1 : ((pentroughlaw12_ours.f l0_0 a0_1 a0_2 a0_3 a0_4).bind fun bt419 => ((seg_Sane.f kj9 bt419.1 bt419.2.1 bt419.2.2.1 bt419.2.2.2.1 bt419.2.2.2.2).bind fun t426 => (if t426 = true then (some ((t389.length : Int) == (wrap64 ((l0_0.length : Int) + 1)))) else (some false)))) = some r := by rw [if_pos rfl] at H; exact H
                clear H
                have H := H1
                clear H1
                replace H := Option.bind_eq_some_iff.mp H
                obtain ⟨⟨t419, t422, t423, t424, t425⟩, A650, H⟩ := H
                replace H : ((seg_Sane.f kj9 t419 t422 t423 t424 t425).bind fun t426 => (if t426 = true then (some ((t389.length : Int) == (wrap64 ((l0_0.length : Int) + 1)))) else (some false))) = some r := H
                have A65 := Aside0.mk A650
                clear A650
                replace H := Option.bind_eq_some_iff.mp H
                obtain ⟨t426, A660, H⟩ := H
                replace H : (if t426 = true then (some ((t389.length : Int) == (wrap64 ((l0_0.length : Int) + 1)))) else (some false)) = some r := H
                have A66 := Aside0.mk A660
                clear A660
                by_cases c67 : t426 = true
                · subst c67
                  have H1 : (some ((t389.length : Int) == (wrap64 ((l0_0.length : Int) + 1)))) = some r := by rw [if_pos rfl] at H; exact H
                  clear H
                  have H := H1
                  clear H1
                  obtain rfl := Option.some.inj H
                  obtain ⟨Ao68, co68, eo68⟩ := Kd.V_slice HO_7.out
                  subst eo68
                  have hnb69 := NB380_399.out
                  have hnc69 := NB399_380.out
                  have hcz70_0 : wc.cell? ⟨gb380, 0, none⟩ = some (.slice A0_0 l0_0.length c0_0) := (blk_cell BK380.out 0).trans rfl
                  have hcz70_1 : wc.cell? ⟨gb380, 1, none⟩ = some (.bool a0_1) := (blk_cell BK380.out 1).trans rfl
                  have hcz70_2 : wc.cell? ⟨gb380, 2, none⟩ = some (.int .i64 a0_2) := (blk_cell BK380.out 2).trans rfl
                  have hcz70_3 : wc.cell? ⟨gb380, 3, none⟩ = some (.bool a0_3) := (blk_cell BK380.out 3).trans rfl
                  have hcz70_4 : wc.cell? ⟨gb380, 4, none⟩ = some (.bool a0_4) := (blk_cell BK380.out 4).trans rfl
                  have hfz70_0 := blk_frozen BK380.out 0
                  have hfz70_1 := blk_frozen BK380.out 1
                  have hfz70_2 := blk_frozen BK380.out 2
                  have hfz70_3 := blk_frozen BK380.out 3
                  have hfz70_4 := blk_frozen BK380.out 4
                  go_wp2_with (first | (go_at_call 31; (with_reducible refine (pentroughlaw12_ours.calls (fun k_ => k_ < w.heap.size) _ _ l0_0 a0_1 a0_2 a0_3 a0_4 t411 t414 t415 t416 t417 _ ?side1 A62.out).mono ?_); (case side1 => exact Kd.V_mk HC0_0.out (Kd.F_below (Kd.C_F (Kd.heap_int .i64) HR0_0.out) (by repeat (first | (with_reducible first | exact HB.out | apply below_alloc | apply pw_below_drewN | apply below_drew1 | refine below_set ?_ GE380.out | refine below_set ?_ GE399.out) | exact HB.out)))); rintro e w71 ⟨v412, rfl, ho0, hb⟩; have n0_ := Aside0.mk (Kd.V_below (by (with_reducible repeat (first | apply Kd.V_alloc | apply Kd.V_drewN | apply Kd.V_drew)); exact HO_7.out) hb); have n1_ := Aside0.mk (Kd.V_below (by (with_reducible repeat (first | apply Kd.V_alloc | apply Kd.V_drewN | apply Kd.V_drew)); exact HO_400000.out) hb); have n2_ := Aside0.mk (Kd.V_lower (Kd.V_mono (ok' := fun k_ => k_ ≠ gb380 ∧ k_ ≠ gb399) ho0 (fun k_ hk_ => ⟨Or.elim hk_ (fun hs_ => fun e_ => Nat.not_le.2 hs_ (by rw [e_]; exact GW380.out)) (fun hn_ => (Kd.freshB (g := gb380) (o := .cells #[.slice A0_0 l0_0.length c0_0, .bool a0_1, .int .i64 a0_2, .bool a0_3, .bool a0_4] 48 (0, 0)) (by (with_reducible repeat (first | refine blk_drewN ?_ _ | refine blk_drew ?_ | refine blk_alloc ?_ _)); exact BK380.out) k_ hn_)), Or.elim hk_ (fun hs_ => fun e_ => Nat.not_le.2 hs_ (by rw [e_]; exact GW399.out)) (fun hn_ => (Kd.freshB (g := gb399) (o := .cells #[.slice Ao18 t389.length co18, .bool t392, .int .i64 t393, .bool t394, .bool t395] 51 (0, 0)) (by (with_reducible repeat (first | refine blk_drewN ?_ _ | refine blk_drew ?_ | refine blk_alloc ?_ _)); exact BK399.out) k_ hn_))⟩)) (below_size (by repeat (first | (with_reducible first | exact HB.out | apply below_alloc | apply pw_below_drewN | apply below_drew1 | refine below_set ?_ GE380.out | refine below_set ?_ GE399.out) | exact HB.out)))); have n3_ := Aside0.mk (blk_below (g := gb380) (o := .cells #[.slice A0_0 l0_0.length c0_0, .bool a0_1, .int .i64 a0_2, .bool a0_3, .bool a0_4] 48 (0, 0)) (by (with_reducible repeat (first | refine blk_drewN ?_ _ | refine blk_drew ?_ | refine blk_alloc ?_ _)); exact BK380.out) hb); have n4_ := Aside0.mk (blk_below (g := gb399) (o := .cells #[.slice Ao18 t389.length co18, .bool t392, .int .i64 t393, .bool t394, .bool t395] 51 (0, 0)) (by (with_reducible repeat (first | refine blk_drewN ?_ _ | refine blk_drew ?_ | refine blk_alloc ?_ _)); exact BK399.out) hb); have n5_ := Aside0.mk (below_step (by repeat (first | (with_reducible first | exact HB.out | apply below_alloc | apply pw_below_drewN | apply below_drew1 | refine below_set ?_ GE380.out | refine below_set ?_ GE399.out) | exact HB.out)) hb); clear HO_7; clear HO_400000; clear BK380; clear BK399; clear HB; have HO_7 := n0_; have HO_400000 := n1_; have HO413 := n2_; have BK380 := n3_; have BK399 := n4_; have HB := n5_; clear n0_ n1_ n2_ n3_ n4_ n5_; (try clear hb); (try clear hb2); (try clear hk); (try clear hi); (try clear ho0); obtain ⟨Ao72, co72, eo72⟩ := Kd.V_slice HO413.out; subst eo72) | (go_at_call 32; (with_reducible refine (seg_Sane.calls kj9 _ _ t411 t414 t415 t416 t417 true _ ?side1 ?side2 A63.out).mono ?_); (case side1 => repeat (first | exact (Kd.V_reads' HO413.out).2.2 | (with_reducible refine Kd.C_alloc ?_ _) | (with_reducible refine Kd.C_drewN ?_ _) | (with_reducible refine Kd.C_drew ?_))); (case side2 => exact (Kd.V_reads' HO413.out).2.1); rintro e w73 ⟨rfl, hb⟩; have n0_ := Aside0.mk (Kd.V_below (by (with_reducible repeat (first | apply Kd.V_alloc | apply Kd.V_drewN | apply Kd.V_drew)); exact HO_7.out) hb); have n1_ := Aside0.mk (Kd.V_below (by (with_reducible repeat (first | apply Kd.V_alloc | apply Kd.V_drewN | apply Kd.V_drew)); exact HO_400000.out) hb); have n2_ := Aside0.mk (Kd.V_below (by (with_reducible repeat (first | apply Kd.V_alloc | apply Kd.V_drewN | apply Kd.V_drew)); exact HO413.out) hb); have n3_ := Aside0.mk (blk_below (g := gb380) (o := .cells #[.slice A0_0 l0_0.length c0_0, .bool a0_1, .int .i64 a0_2, .bool a0_3, .bool a0_4] 48 (0, 0)) (by (with_reducible repeat (first | refine blk_drewN ?_ _ | refine blk_drew ?_ | refine blk_alloc ?_ _)); exact BK380.out) hb); have n4_ := Aside0.mk (blk_below (g := gb399) (o := .cells #[.slice Ao18 t389.length co18, .bool t392, .int .i64 t393, .bool t394, .bool t395] 51 (0, 0)) (by (with_reducible repeat (first | refine blk_drewN ?_ _ | refine blk_drew ?_ | refine blk_alloc ?_ _)); exact BK399.out) hb); have n5_ := Aside0.mk (below_step (by repeat (first | (with_reducible first | exact HB.out | apply below_alloc | apply pw_below_drewN | apply below_drew1 | refine below_set ?_ GE380.out | refine below_set ?_ GE399.out) | exact HB.out)) hb); clear HO_7; clear HO_400000; clear HO413; clear BK380; clear BK399; clear HB; have HO_7 := n0_; have HO_400000 := n1_; have HO413 := n2_; have BK380 := n3_; have BK399 := n4_; have HB := n5_; clear n0_ n1_ n2_ n3_ n4_ n5_; (try clear hb); (try clear hb2); (try clear hk); (try clear hi); have hcz74_0 : w73.cell? ⟨gb380, 0, none⟩ = some (.slice A0_0 l0_0.length c0_0) := (blk_cell BK380.out 0).trans rfl; have hcq74_0 : w73.cell? ⟨gb399, 0, none⟩ = some (.slice Ao18 t389.length co18) := (blk_cell BK399.out 0).trans rfl; have hcz74_1 : w73.cell? ⟨gb380, 1, none⟩ = some (.bool a0_1) := (blk_cell BK380.out 1).trans rfl; have hcz74_2 : w73.cell? ⟨gb380, 2, none⟩ = some (.int .i64 a0_2) := (blk_cell BK380.out 2).trans rfl; have hcz74_3 : w73.cell? ⟨gb380, 3, none⟩ = some (.bool a0_3) := (blk_cell BK380.out 3).trans rfl; have hcz74_4 : w73.cell? ⟨gb380, 4, none⟩ = some (.bool a0_4) := (blk_cell BK380.out 4).trans rfl; have hfz74_0 := blk_frozen BK380.out 0; have hfz74_1 := blk_frozen BK380.out 1; have hfz74_2 := blk_frozen BK380.out 2; have hfz74_3 := blk_frozen BK380.out 3; have hfz74_4 := blk_frozen BK380.out 4) | (go_at_call 31; (with_reducible refine (pentroughlaw12_ours.calls (fun k_ => k_ < w.heap.size) _ _ l0_0 a0_1 a0_2 a0_3 a0_4 t419 t422 t423 t424 t425 _ ?side1 A65.out).mono ?_); (case side1 => exact Kd.V_mk HC0_0.out (Kd.F_below (Kd.C_F (Kd.heap_int .i64) HR0_0.out) (by repeat (first | (with_reducible first | exact HB.out | apply below_alloc | apply pw_below_drewN | apply below_drew1 | refine below_set ?_ GE380.out | refine below_set ?_ GE399.out) | exact HB.out)))); rintro e w75 ⟨v420, rfl, ho0, hb⟩; have n0_ := Aside0.mk (Kd.V_below (by (with_reducible repeat (first | apply Kd.V_alloc | apply Kd.V_drewN | apply Kd.V_drew)); exact HO_7.out) hb); have n1_ := Aside0.mk (Kd.V_below (by (with_reducible repeat (first | apply Kd.V_alloc | apply Kd.V_drewN | apply Kd.V_drew)); exact HO_400000.out) hb); have n2_ := Aside0.mk (Kd.V_below (by (with_reducible repeat (first | apply Kd.V_alloc | apply Kd.V_drewN | apply Kd.V_drew)); exact HO413.out) hb); have n3_ := Aside0.mk (Kd.V_lower (Kd.V_mono (ok' := fun k_ => k_ ≠ gb380 ∧ k_ ≠ gb399) ho0 (fun k_ hk_ => ⟨Or.elim hk_ (fun hs_ => fun e_ => Nat.not_le.2 hs_ (by rw [e_]; exact GW380.out)) (fun hn_ => (Kd.freshB (g := gb380) (o := .cells #[.slice A0_0 l0_0.length c0_0, .bool a0_1, .int .i64 a0_2, .bool a0_3, .bool a0_4] 48 (0, 0)) (by (with_reducible repeat (first | refine blk_drewN ?_ _ | refine blk_drew ?_ | refine blk_alloc ?_ _)); exact BK380.out) k_ hn_)), Or.elim hk_ (fun hs_ => fun e_ => Nat.not_le.2 hs_ (by rw [e_]; exact GW399.out)) (fun hn_ => (Kd.freshB (g := gb399) (o := .cells #[.slice Ao18 t389.length co18, .bool t392, .int .i64 t393, .bool t394, .bool t395] 51 (0, 0)) (by (with_reducible repeat (first | refine blk_drewN ?_ _ | refine blk_drew ?_ | refine blk_alloc ?_ _)); exact BK399.out) k_ hn_))⟩)) (below_size (by repeat (first | (with_reducible first | exact HB.out | apply below_alloc | apply pw_below_drewN | apply below_drew1 | refine below_set ?_ GE380.out | refine below_set ?_ GE399.out) | exact HB.out)))); have n4_ := Aside0.mk (blk_below (g := gb380) (o := .cells #[.slice A0_0 l0_0.length c0_0, .bool a0_1, .int .i64 a0_2, .bool a0_3, .bool a0_4] 48 (0, 0)) (by (with_reducible repeat (first | refine blk_drewN ?_ _ | refine blk_drew ?_ | refine blk_alloc ?_ _)); exact BK380.out) hb); have n5_ := Aside0.mk (blk_below (g := gb399) (o := .cells #[.slice Ao18 t389.length co18, .bool t392, .int .i64 t393, .bool t394, .bool t395] 51 (0, 0)) (by (with_reducible repeat (first | refine blk_drewN ?_ _ | refine blk_drew ?_ | refine blk_alloc ?_ _)); exact BK399.out) hb); have n6_ := Aside0.mk (below_step (by repeat (first | (with_reducible first | exact HB.out | apply below_alloc | apply pw_below_drewN | apply below_drew1 | refine below_set ?_ GE380.out | refine below_set ?_ GE399.out) | exact HB.out)) hb); clear HO_7; clear HO_400000; clear HO413; clear BK380; clear BK399; clear HB; have HO_7 := n0_; have HO_400000 := n1_; have HO413 := n2_; have HO421 := n3_; have BK380 := n4_; have BK399 := n5_; have HB := n6_; clear n0_ n1_ n2_ n3_ n4_ n5_ n6_; (try clear hb); (try clear hb2); (try clear hk); (try clear hi); (try clear ho0); obtain ⟨Ao76, co76, eo76⟩ := Kd.V_slice HO421.out; subst eo76) | (go_at_call 32; (with_reducible refine (seg_Sane.calls kj9 _ _ t419 t422 t423 t424 t425 true _ ?side1 ?side2 A66.out).mono ?_); (case side1 => repeat (first | exact (Kd.V_reads' HO421.out).2.2 | (with_reducible refine Kd.C_alloc ?_ _) | (with_reducible refine Kd.C_drewN ?_ _) | (with_reducible refine Kd.C_drew ?_))); (case side2 => exact (Kd.V_reads' HO421.out).2.1); rintro e w77 ⟨rfl, hb⟩; have n0_ := Aside0.mk (Kd.V_below (by (with_reducible repeat (first | apply Kd.V_alloc | apply Kd.V_drewN | apply Kd.V_drew)); exact HO_7.out) hb); have n1_ := Aside0.mk (Kd.V_below (by (with_reducible repeat (first | apply Kd.V_alloc | apply Kd.V_drewN | apply Kd.V_drew)); exact HO_400000.out) hb); have n2_ := Aside0.mk (Kd.V_below (by (with_reducible repeat (first | apply Kd.V_alloc | apply Kd.V_drewN | apply Kd.V_drew)); exact HO413.out) hb); have n3_ := Aside0.mk (Kd.V_below (by (with_reducible repeat (first | apply Kd.V_alloc | apply Kd.V_drewN | apply Kd.V_drew)); exact HO421.out) hb); have n4_ := Aside0.mk (blk_below (g := gb380) (o := .cells #[.slice A0_0 l0_0.length c0_0, .bool a0_1, .int .i64 a0_2, .bool a0_3, .bool a0_4] 48 (0, 0)) (by (with_reducible repeat (first | refine blk_drewN ?_ _ | refine blk_drew ?_ | refine blk_alloc ?_ _)); exact BK380.out) hb); have n5_ := Aside0.mk (blk_below (g := gb399) (o := .cells #[.slice Ao18 t389.length co18, .bool t392, .int .i64 t393, .bool t394, .bool t395] 51 (0, 0)) (by (with_reducible repeat (first | refine blk_drewN ?_ _ | refine blk_drew ?_ | refine blk_alloc ?_ _)); exact BK399.out) hb); have n6_ := Aside0.mk (below_step (by repeat (first | (with_reducible first | exact HB.out | apply below_alloc | apply pw_below_drewN | apply below_drew1 | refine below_set ?_ GE380.out | refine below_set ?_ GE399.out) | exact HB.out)) hb); clear HO_7; clear HO_400000; clear HO413; clear HO421; clear BK380; clear BK399; clear HB; have HO_7 := n0_; have HO_400000 := n1_; have HO413 := n2_; have HO421 := n3_; have BK380 := n4_; have BK399 := n5_; have HB := n6_; clear n0_ n1_ n2_ n3_ n4_ n5_ n6_; (try clear hb); (try clear hb2); (try clear hk); (try clear hi); have hcz78_0 : w77.cell? ⟨gb399, 0, none⟩ = some (.slice Ao18 t389.length co18) := (blk_cell BK399.out 0).trans rfl; have hcz78_1 : w77.cell? ⟨gb399, 1, none⟩ = some (.bool t392) := (blk_cell BK399.out 1).trans rfl; have hcz78_2 : w77.cell? ⟨gb399, 2, none⟩ = some (.int .i64 t393) := (blk_cell BK399.out 2).trans rfl; have hcz78_3 : w77.cell? ⟨gb399, 3, none⟩ = some (.bool t394) := (blk_cell BK399.out 3).trans rfl; have hcz78_4 : w77.cell? ⟨gb399, 4, none⟩ = some (.bool t395) := (blk_cell BK399.out 4).trans rfl; have hfz78_0 := blk_frozen BK399.out 0; have hfz78_1 := blk_frozen BK399.out 1; have hfz78_2 := blk_frozen BK399.out 2; have hfz78_3 := blk_frozen BK399.out 3; have hfz78_4 := blk_frozen BK399.out 4; have hcz79_0 : w77.cell? ⟨gb380, 0, none⟩ = some (.slice A0_0 l0_0.length c0_0) := (blk_cell BK380.out 0).trans rfl; have hcq79_0 : w77.cell? ⟨gb399, 0, none⟩ = some (.slice Ao18 t389.length co18) := (blk_cell BK399.out 0).trans rfl; have hcz79_1 : w77.cell? ⟨gb380, 1, none⟩ = some (.bool a0_1) := (blk_cell BK380.out 1).trans rfl; have hcz79_2 : w77.cell? ⟨gb380, 2, none⟩ = some (.int .i64 a0_2) := (blk_cell BK380.out 2).trans rfl; have hcz79_3 : w77.cell? ⟨gb380, 3, none⟩ = some (.bool a0_3) := (blk_cell BK380.out 3).trans rfl; have hcz79_4 : w77.cell? ⟨gb380, 4, none⟩ = some (.bool a0_4) := (blk_cell BK380.out 4).trans rfl; have hfz79_0 := blk_frozen BK380.out 0; have hfz79_1 := blk_frozen BK380.out 1; have hfz79_2 := blk_frozen BK380.out 2; have hfz79_3 := blk_frozen BK380.out 3; have hfz79_4 := blk_frozen BK380.out 4))
                  go_ret
                  exact ⟨by first | rfl | (simp [errW_none, errW_some] <;> rfl) | (simp [*, errW_none, errW_some] <;> rfl), by repeat (first | (with_reducible first | exact HB.out | apply below_alloc | apply pw_below_drewN | apply below_drew1 | refine below_set ?_ GE380.out | refine below_set ?_ GE399.out) | exact HB.out)⟩
                · replace c67 := Bool.eq_false_iff.mpr c67
                  subst c67
                  have H1 : (some false) = some r := by rw [if_neg (show ¬ (false = true) by decide)] at H; exact H
                  clear H
                  have H := H1
                  clear H1
                  obtain rfl := Option.some.inj H
                  obtain ⟨Ao80, co80, eo80⟩ := Kd.V_slice HO_7.out
                  subst eo80
                  have hnb81 := NB380_399.out
                  have hnc81 := NB399_380.out
                  have hcz82_0 : wc.cell? ⟨gb380, 0, none⟩ = some (.slice A0_0 l0_0.length c0_0) := (blk_cell BK380.out 0).trans rfl
                  have hcz82_1 : wc.cell? ⟨gb380, 1, none⟩ = some (.bool a0_1) := (blk_cell BK380.out 1).trans rfl
                  have hcz82_2 : wc.cell? ⟨gb380, 2, none⟩ = some (.int .i64 a0_2) := (blk_cell BK380.out 2).trans rfl
                  have hcz82_3 : wc.cell? ⟨gb380, 3, none⟩ = some (.bool a0_3) := (blk_cell BK380.out 3).trans rfl
                  have hcz82_4 : wc.cell? ⟨gb380, 4, none⟩ = some (.bool a0_4) := (blk_cell BK380.out 4).trans rfl
                  have hfz82_0 := blk_frozen BK380.out 0
                  have hfz82_1 := blk_frozen BK380.out 1
                  have hfz82_2 := blk_frozen BK380.out 2
                  have hfz82_3 := blk_frozen BK380.out 3
                  have hfz82_4 := blk_frozen BK380.out 4
                  exfalso; have e1_ := A62.out.symm.trans A65.out; simp only [Option.some.injEq, Prod.mk.injEq] at e1_; obtain ⟨q1_, q2_, q3_, q4_, q5_⟩ := e1_; have e2_ := A63.out; rw [q1_, q2_, q3_, q4_, q5_, A66.out] at e2_; cases e2_
              · replace c64 := Bool.eq_false_iff.mpr c64
                subst c64
                have H1 : (if (t389.length : Int) = 1 then (some true) else ((pentroughlaw12_ours.f l0_0 a0_1 a0_2 a0_3 a0_4).bind fun bt427 => ((seg_Sane.f kj9 bt427.1 bt427.2.1 bt427.2.2.1 bt427.2.2.2.1 bt427.2.2.2.2).bind fun t434 => (if t434 = true then (some ((t389.length : Int) == (wrap64 ((l0_0.length : Int) + 1)))) else (some false))))) = some r := by rw [if_neg (show ¬ (false = true) by decide)] at H; exact H
                clear H
                have H := H1
                clear H1
                by_cases c90 : (t389.length : Int) = 1
                · rw [if_pos c90] at H
                  have c90b0 : ((t389.length : Int) == 1) = true := beq_iff_eq.mpr c90
                  have c90b1 : ((t389.length : Int) != 1) = false := bne_eq_false_iff_eq.mpr c90
                  clear c90
                  obtain rfl := Option.some.inj H
                  obtain ⟨Ao91, co91, eo91⟩ := Kd.V_slice HO_7.out
                  subst eo91
                  have hnb92 := NB380_399.out
                  have hnc92 := NB399_380.out
                  have hcz93_0 : wc.cell? ⟨gb380, 0, none⟩ = some (.slice A0_0 l0_0.length c0_0) := (blk_cell BK380.out 0).trans rfl
                  have hcz93_1 : wc.cell? ⟨gb380, 1, none⟩ = some (.bool a0_1) := (blk_cell BK380.out 1).trans rfl
                  have hcz93_2 : wc.cell? ⟨gb380, 2, none⟩ = some (.int .i64 a0_2) := (blk_cell BK380.out 2).trans rfl
                  have hcz93_3 : wc.cell? ⟨gb380, 3, none⟩ = some (.bool a0_3) := (blk_cell BK380.out 3).trans rfl
                  have hcz93_4 : wc.cell? ⟨gb380, 4, none⟩ = some (.bool a0_4) := (blk_cell BK380.out 4).trans rfl
                  have hfz93_0 := blk_frozen BK380.out 0
                  have hfz93_1 := blk_frozen BK380.out 1
                  have hfz93_2 := blk_frozen BK380.out 2
                  have hfz93_3 := blk_frozen BK380.out 3
                  have hfz93_4 := blk_frozen BK380.out 4
                  go_wp2_with (first | (go_at_call 31; (with_reducible refine (pentroughlaw12_ours.calls (fun k_ => k_ < w.heap.size) _ _ l0_0 a0_1 a0_2 a0_3 a0_4 t411 t414 t415 t416 t417 _ ?side1 A62.out).mono ?_); (case side1 => exact Kd.V_mk HC0_0.out (Kd.F_below (Kd.C_F (Kd.heap_int .i64) HR0_0.out) (by repeat (first | (with_reducible first | exact HB.out | apply below_alloc | apply pw_below_drewN | apply below_drew1 | refine below_set ?_ GE380.out | refine below_set ?_ GE399.out) | exact HB.out)))); rintro e w94 ⟨v412, rfl, ho0, hb⟩; have n0_ := Aside0.mk (Kd.V_below (by (with_reducible repeat (first | apply Kd.V_alloc | apply Kd.V_drewN | apply Kd.V_drew)); exact HO_7.out) hb); have n1_ := Aside0.mk (Kd.V_below (by (with_reducible repeat (first | apply Kd.V_alloc | apply Kd.V_drewN | apply Kd.V_drew)); exact HO_400000.out) hb); have n2_ := Aside0.mk (Kd.V_lower (Kd.V_mono (ok' := fun k_ => k_ ≠ gb380 ∧ k_ ≠ gb399) ho0 (fun k_ hk_ => ⟨Or.elim hk_ (fun hs_ => fun e_ => Nat.not_le.2 hs_ (by rw [e_]; exact GW380.out)) (fun hn_ => (Kd.freshB (g := gb380) (o := .cells #[.slice A0_0 l0_0.length c0_0, .bool a0_1, .int .i64 a0_2, .bool a0_3, .bool a0_4] 48 (0, 0)) (by (with_reducible repeat (first | refine blk_drewN ?_ _ | refine blk_drew ?_ | refine blk_alloc ?_ _)); exact BK380.out) k_ hn_)), Or.elim hk_ (fun hs_ => fun e_ => Nat.not_le.2 hs_ (by rw [e_]; exact GW399.out)) (fun hn_ => (Kd.freshB (g := gb399) (o := .cells #[.slice Ao18 t389.length co18, .bool t392, .int .i64 t393, .bool t394, .bool t395] 51 (0, 0)) (by (with_reducible repeat (first | refine blk_drewN ?_ _ | refine blk_drew ?_ | refine blk_alloc ?_ _)); exact BK399.out) k_ hn_))⟩)) (below_size (by repeat (first | (with_reducible first | exact HB.out | apply below_alloc | apply pw_below_drewN | apply below_drew1 | refine below_set ?_ GE380.out | refine below_set ?_ GE399.out) | exact HB.out)))); have n3_ := Aside0.mk (blk_below (g := gb380) (o := .cells #[.slice A0_0 l0_0.length c0_0, .bool a0_1, .int .i64 a0_2, .bool a0_3, .bool a0_4] 48 (0, 0)) (by (with_reducible repeat (first | refine blk_drewN ?_ _ | refine blk_drew ?_ | refine blk_alloc ?_ _)); exact BK380.out) hb); have n4_ := Aside0.mk (blk_below (g := gb399) (o := .cells #[.slice Ao18 t389.length co18, .bool t392, .int .i64 t393, .bool t394, .bool t395] 51 (0, 0)) (by (with_reducible repeat (first | refine blk_drewN ?_ _ | refine blk_drew ?_ | refine blk_alloc ?_ _)); exact BK399.out) hb); have n5_ := Aside0.mk (below_step (by repeat (first | (with_reducible first | exact HB.out | apply below_alloc | apply pw_below_drewN | apply below_drew1 | refine below_set ?_ GE380.out | refine below_set ?_ GE399.out) | exact HB.out)) hb); clear HO_7; clear HO_400000; clear BK380; clear BK399; clear HB; have HO_7 := n0_; have HO_400000 := n1_; have HO413 := n2_; have BK380 := n3_; have BK399 := n4_; have HB := n5_; clear n0_ n1_ n2_ n3_ n4_ n5_; (try clear hb); (try clear hb2); (try clear hk); (try clear hi); (try clear ho0); obtain ⟨Ao95, co95, eo95⟩ := Kd.V_slice HO413.out; subst eo95) | (go_at_call 32; (with_reducible refine (seg_Sane.calls kj9 _ _ t411 t414 t415 t416 t417 false _ ?side1 ?side2 A63.out).mono ?_); (case side1 => repeat (first | exact (Kd.V_reads' HO413.out).2.2 | (with_reducible refine Kd.C_alloc ?_ _) | (with_reducible refine Kd.C_drewN ?_ _) | (with_reducible refine Kd.C_drew ?_))); (case side2 => exact (Kd.V_reads' HO413.out).2.1); rintro e w96 ⟨rfl, hb⟩; have n0_ := Aside0.mk (Kd.V_below (by (with_reducible repeat (first | apply Kd.V_alloc | apply Kd.V_drewN | apply Kd.V_drew)); exact HO_7.out) hb); have n1_ := Aside0.mk (Kd.V_below (by (with_reducible repeat (first | apply Kd.V_alloc | apply Kd.V_drewN | apply Kd.V_drew)); exact HO_400000.out) hb); have n2_ := Aside0.mk (Kd.V_below (by (with_reducible repeat (first | apply Kd.V_alloc | apply Kd.V_drewN | apply Kd.V_drew)); exact HO413.out) hb); have n3_ := Aside0.mk (blk_below (g := gb380) (o := .cells #[.slice A0_0 l0_0.length c0_0, .bool a0_1, .int .i64 a0_2, .bool a0_3, .bool a0_4] 48 (0, 0)) (by (with_reducible repeat (first | refine blk_drewN ?_ _ | refine blk_drew ?_ | refine blk_alloc ?_ _)); exact BK380.out) hb); have n4_ := Aside0.mk (blk_below (g := gb399) (o := .cells #[.slice Ao18 t389.length co18, .bool t392, .int .i64 t393, .bool t394, .bool t395] 51 (0, 0)) (by (with_reducible repeat (first | refine blk_drewN ?_ _ | refine blk_drew ?_ | refine blk_alloc ?_ _)); exact BK399.out) hb); have n5_ := Aside0.mk (below_step (by repeat (first | (with_reducible first | exact HB.out | apply below_alloc | apply pw_below_drewN | apply below_drew1 | refine below_set ?_ GE380.out | refine below_set ?_ GE399.out) | exact HB.out)) hb); clear HO_7; clear HO_400000; clear HO413; clear BK380; clear BK399; clear HB; have HO_7 := n0_; have HO_400000 := n1_; have HO413 := n2_; have BK380 := n3_; have BK399 := n4_; have HB := n5_; clear n0_ n1_ n2_ n3_ n4_ n5_; (try clear hb); (try clear hb2); (try clear hk); (try clear hi); have hcz97_0 : w96.cell? ⟨gb399, 0, none⟩ = some (.slice Ao18 t389.length co18) := (blk_cell BK399.out 0).trans rfl; have hcz97_1 : w96.cell? ⟨gb399, 1, none⟩ = some (.bool t392) := (blk_cell BK399.out 1).trans rfl; have hcz97_2 : w96.cell? ⟨gb399, 2, none⟩ = some (.int .i64 t393) := (blk_cell BK399.out 2).trans rfl; have hcz97_3 : w96.cell? ⟨gb399, 3, none⟩ = some (.bool t394) := (blk_cell BK399.out 3).trans rfl; have hcz97_4 : w96.cell? ⟨gb399, 4, none⟩ = some (.bool t395) := (blk_cell BK399.out 4).trans rfl; have hfz97_0 := blk_frozen BK399.out 0; have hfz97_1 := blk_frozen BK399.out 1; have hfz97_2 := blk_frozen BK399.out 2; have hfz97_3 := blk_frozen BK399.out 3; have hfz97_4 := blk_frozen BK399.out 4))
                  go_ret
                  exact ⟨by first | rfl | (simp [errW_none, errW_some] <;> rfl) | (simp [*, errW_none, errW_some] <;> rfl), by repeat (first | (with_reducible first | exact HB.out | apply below_alloc | apply pw_below_drewN | apply below_drew1 | refine below_set ?_ GE380.out | refine below_set ?_ GE399.out) | exact HB.out)⟩
                · rw [if_neg c90] at H
                  have c90b0 : ((t389.length : Int) == 1) = false := beq_eq_false_iff_ne.mpr c90
                  have c90b1 : ((t389.length : Int) != 1) = true := bne_iff_ne.mpr c90
                  replace H := Option.bind_eq_some_iff.mp H
                  obtain ⟨⟨t427, t430, t431, t432, t433⟩, A980, H⟩ := H
                  replace H : ((seg_Sane.f kj9 t427 t430 t431 t432 t433).bind fun t434 => (if t434 = true then (some ((t389.length : Int) == (wrap64 ((l0_0.length : Int) + 1)))) else (some false))) = some r := H
                  have A98 := Aside0.mk A980
                  clear A980
                  replace H := Option.bind_eq_some_iff.mp H
                  obtain ⟨t434, A990, H⟩ := H
                  replace H : (if t434 = true then (some ((t389.length : Int) == (wrap64 ((l0_0.length : Int) + 1)))) else (some false)) = some r := H
                  have A99 := Aside0.mk A990
                  clear A990
                  by_cases c100 : t434 = true
                  · subst c100
                    have H1 : (some ((t389.length : Int) == (wrap64 ((l0_0.length : Int) + 1)))) = some r := by rw [if_pos rfl] at H; exact H
                    clear H
                    have H := H1
                    clear H1
                    obtain rfl := Option.some.inj H
                    obtain ⟨Ao101, co101, eo101⟩ := Kd.V_slice HO_7.out
                    subst eo101
                    have hnb102 := NB380_399.out
                    have hnc102 := NB399_380.out
                    have hcz103_0 : wc.cell? ⟨gb380, 0, none⟩ = some (.slice A0_0 l0_0.length c0_0) := (blk_cell BK380.out 0).trans rfl
                    have hcz103_1 : wc.cell? ⟨gb380, 1, none⟩ = some (.bool a0_1) := (blk_cell BK380.out 1).trans rfl
                    have hcz103_2 : wc.cell? ⟨gb380, 2, none⟩ = some (.int .i64 a0_2) := (blk_cell BK380.out 2).trans rfl
                    have hcz103_3 : wc.cell? ⟨gb380, 3, none⟩ = some (.bool a0_3) := (blk_cell BK380.out 3).trans rfl
                    have hcz103_4 : wc.cell? ⟨gb380, 4, none⟩ = some (.bool a0_4) := (blk_cell BK380.out 4).trans rfl
                    have hfz103_0 := blk_frozen BK380.out 0
                    have hfz103_1 := blk_frozen BK380.out 1
                    have hfz103_2 := blk_frozen BK380.out 2
                    have hfz103_3 := blk_frozen BK380.out 3
                    have hfz103_4 := blk_frozen BK380.out 4
                    exfalso; have e1_ := A62.out.symm.trans A98.out; simp only [Option.some.injEq, Prod.mk.injEq] at e1_; obtain ⟨q1_, q2_, q3_, q4_, q5_⟩ := e1_; have e2_ := A63.out; rw [q1_, q2_, q3_, q4_, q5_, A99.out] at e2_; cases e2_
                  · replace c100 := Bool.eq_false_iff.mpr c100
                    subst c100
                    have H1 : (some false) = some r := by rw [if_neg (show ¬ (false = true) by decide)] at H; exact H
                    clear H
                    have H := H1
                    clear H1
                    obtain rfl := Option.some.inj H
                    obtain ⟨Ao114, co114, eo114⟩ := Kd.V_slice HO_7.out
                    subst eo114
                    have hnb115 := NB380_399.out
                    have hnc115 := NB399_380.out
                    have hcz116_0 : wc.cell? ⟨gb380, 0, none⟩ = some (.slice A0_0 l0_0.length c0_0) := (blk_cell BK380.out 0).trans rfl
                    have hcz116_1 : wc.cell? ⟨gb380, 1, none⟩ = some (.bool a0_1) := (blk_cell BK380.out 1).trans rfl
                    have hcz116_2 : wc.cell? ⟨gb380, 2, none⟩ = some (.int .i64 a0_2) := (blk_cell BK380.out 2).trans rfl
                    have hcz116_3 : wc.cell? ⟨gb380, 3, none⟩ = some (.bool a0_3) := (blk_cell BK380.out 3).trans rfl
                    have hcz116_4 : wc.cell? ⟨gb380, 4, none⟩ = some (.bool a0_4) := (blk_cell BK380.out 4).trans rfl
                    have hfz116_0 := blk_frozen BK380.out 0
                    have hfz116_1 := blk_frozen BK380.out 1
                    have hfz116_2 := blk_frozen BK380.out 2
                    have hfz116_3 := blk_frozen BK380.out 3
                    have hfz116_4 := blk_frozen BK380.out 4
                    go_wp2_with (first | (go_at_call 31; (with_reducible refine (pentroughlaw12_ours.calls (fun k_ => k_ < w.heap.size) _ _ l0_0 a0_1 a0_2 a0_3 a0_4 t411 t414 t415 t416 t417 _ ?side1 A62.out).mono ?_); (case side1 => exact Kd.V_mk HC0_0.out (Kd.F_below (Kd.C_F (Kd.heap_int .i64) HR0_0.out) (by repeat (first | (with_reducible first | exact HB.out | apply below_alloc | apply pw_below_drewN | apply below_drew1 | refine below_set ?_ GE380.out | refine below_set ?_ GE399.out) | exact HB.out)))); rintro e w117 ⟨v412, rfl, ho0, hb⟩; have n0_ := Aside0.mk (Kd.V_below (by (with_reducible repeat (first | apply Kd.V_alloc | apply Kd.V_drewN | apply Kd.V_drew)); exact HO_7.out) hb); have n1_ := Aside0.mk (Kd.V_below (by (with_reducible repeat (first | apply Kd.V_alloc | apply Kd.V_drewN | apply Kd.V_drew)); exact HO_400000.out) hb); have n2_ := Aside0.mk (Kd.V_lower (Kd.V_mono (ok' := fun k_ => k_ ≠ gb380 ∧ k_ ≠ gb399) ho0 (fun k_ hk_ => ⟨Or.elim hk_ (fun hs_ => fun e_ => Nat.not_le.2 hs_ (by rw [e_]; exact GW380.out)) (fun hn_ => (Kd.freshB (g := gb380) (o := .cells #[.slice A0_0 l0_0.length c0_0, .bool a0_1, .int .i64 a0_2, .bool a0_3, .bool a0_4] 48 (0, 0)) (by (with_reducible repeat (first | refine blk_drewN ?_ _ | refine blk_drew ?_ | refine blk_alloc ?_ _)); exact BK380.out) k_ hn_)), Or.elim hk_ (fun hs_ => fun e_ => Nat.not_le.2 hs_ (by rw [e_]; exact GW399.out)) (fun hn_ => (Kd.freshB (g := gb399) (o := .cells #[.slice Ao18 t389.length co18, .bool t392, .int .i64 t393, .bool t394, .bool t395] 51 (0, 0)) (by (with_reducible repeat (first | refine blk_drewN ?_ _ | refine blk_drew ?_ | refine blk_alloc ?_ _)); exact BK399.out) k_ hn_))⟩)) (below_size (by repeat (first | (with_reducible first | exact HB.out | apply below_alloc | apply pw_below_drewN | apply below_drew1 | refine below_set ?_ GE380.out | refine below_set ?_ GE399.out) | exact HB.out)))); have n3_ := Aside0.mk (blk_below (g := gb380) (o := .cells #[.slice A0_0 l0_0.length c0_0, .bool a0_1, .int .i64 a0_2, .bool a0_3, .bool a0_4] 48 (0, 0)) (by (with_reducible repeat (first | refine blk_drewN ?_ _ | refine blk_drew ?_ | refine blk_alloc ?_ _)); exact BK380.out) hb); have n4_ := Aside0.mk (blk_below (g := gb399) (o := .cells #[.slice Ao18 t389.length co18, .bool t392, .int .i64 t393, .bool t394, .bool t395] 51 (0, 0)) (by (with_reducible repeat (first | refine blk_drewN ?_ _ | refine blk_drew ?_ | refine blk_alloc ?_ _)); exact BK399.out) hb); have n5_ := Aside0.mk (below_step (by repeat (first | (with_reducible first | exact HB.out | apply below_alloc | apply pw_below_drewN | apply below_drew1 | refine below_set ?_ GE380.out | refine below_set ?_ GE399.out) | exact HB.out)) hb); clear HO_7; clear HO_400000; clear BK380; clear BK399; clear HB; have HO_7 := n0_; have HO_400000 := n1_; have HO413 := n2_; have BK380 := n3_; have BK399 := n4_; have HB := n5_; clear n0_ n1_ n2_ n3_ n4_ n5_; (try clear hb); (try clear hb2); (try clear hk); (try clear hi); (try clear ho0); obtain ⟨Ao118, co118, eo118⟩ := Kd.V_slice HO413.out; subst eo118) | (go_at_call 32; (with_reducible refine (seg_Sane.calls kj9 _ _ t411 t414 t415 t416 t417 false _ ?side1 ?side2 A63.out).mono ?_); (case side1 => repeat (first | exact (Kd.V_reads' HO413.out).2.2 | (with_reducible refine Kd.C_alloc ?_ _) | (with_reducible refine Kd.C_drewN ?_ _) | (with_reducible refine Kd.C_drew ?_))); (case side2 => exact (Kd.V_reads' HO413.out).2.1); rintro e w119 ⟨rfl, hb⟩; have n0_ := Aside0.mk (Kd.V_below (by (with_reducible repeat (first | apply Kd.V_alloc | apply Kd.V_drewN | apply Kd.V_drew)); exact HO_7.out) hb); have n1_ := Aside0.mk (Kd.V_below (by (with_reducible repeat (first | apply Kd.V_alloc | apply Kd.V_drewN | apply Kd.V_drew)); exact HO_400000.out) hb); have n2_ := Aside0.mk (Kd.V_below (by (with_reducible repeat (first | apply Kd.V_alloc | apply Kd.V_drewN | apply Kd.V_drew)); exact HO413.out) hb); have n3_ := Aside0.mk (blk_below (g := gb380) (o := .cells #[.slice A0_0 l0_0.length c0_0, .bool a0_1, .int .i64 a0_2, .bool a0_3, .bool a0_4] 48 (0, 0)) (by (with_reducible repeat (first | refine blk_drewN ?_ _ | refine blk_drew ?_ | refine blk_alloc ?_ _)); exact BK380.out) hb); have n4_ := Aside0.mk (blk_below (g := gb399) (o := .cells #[.slice Ao18 t389.length co18, .bool t392, .int .i64 t393, .bool t394, .bool t395] 51 (0, 0)) (by (with_reducible repeat (first | refine blk_drewN ?_ _ | refine blk_drew ?_ | refine blk_alloc ?_ _)); exact BK399.out) hb); have n5_ := Aside0.mk (below_step (by repeat (first | (with_reducible first | exact HB.out | apply below_alloc | apply pw_below_drewN | apply below_drew1 | refine below_set ?_ GE380.out | refine below_set ?_ GE399.out) | exact HB.out)) hb); clear HO_7; clear HO_400000; clear HO413; clear BK380; clear BK399; clear HB; have HO_7 := n0_; have HO_400000 := n1_; have HO413 := n2_; have BK380 := n3_; have BK399 := n4_; have HB := n5_; clear n0_ n1_ n2_ n3_ n4_ n5_; (try clear hb); (try clear hb2); (try clear hk); (try clear hi); have hcz120_0 : w119.cell? ⟨gb399, 0, none⟩ = some (.slice Ao18 t389.length co18) := (blk_cell BK399.out 0).trans rfl; have hcz120_1 : w119.cell? ⟨gb399, 1, none⟩ = some (.bool t392) := (blk_cell BK399.out 1).trans rfl; have hcz120_2 : w119.cell? ⟨gb399, 2, none⟩ = some (.int .i64 t393) := (blk_cell BK399.out 2).trans rfl; have hcz120_3 : w119.cell? ⟨gb399, 3, none⟩ = some (.bool t394) := (blk_cell BK399.out 3).trans rfl; have hcz120_4 : w119.cell? ⟨gb399, 4, none⟩ = some (.bool t395) := (blk_cell BK399.out 4).trans rfl; have hfz120_0 := blk_frozen BK399.out 0; have hfz120_1 := blk_frozen BK399.out 1; have hfz120_2 := blk_frozen BK399.out 2; have hfz120_3 := blk_frozen BK399.out 3; have hfz120_4 := blk_frozen BK399.out 4; have hcz121_0 : w119.cell? ⟨gb380, 0, none⟩ = some (.slice A0_0 l0_0.length c0_0) := (blk_cell BK380.out 0).trans rfl; have hcq121_0 : w119.cell? ⟨gb399, 0, none⟩ = some (.slice Ao18 t389.length co18) := (blk_cell BK399.out 0).trans rfl; have hcz121_1 : w119.cell? ⟨gb380, 1, none⟩ = some (.bool a0_1) := (blk_cell BK380.out 1).trans rfl; have hcz121_2 : w119.cell? ⟨gb380, 2, none⟩ = some (.int .i64 a0_2) := (blk_cell BK380.out 2).trans rfl; have hcz121_3 : w119.cell? ⟨gb380, 3, none⟩ = some (.bool a0_3) := (blk_cell BK380.out 3).trans rfl; have hcz121_4 : w119.cell? ⟨gb380, 4, none⟩ = some (.bool a0_4) := (blk_cell BK380.out 4).trans rfl; have hfz121_0 := blk_frozen BK380.out 0; have hfz121_1 := blk_frozen BK380.out 1; have hfz121_2 := blk_frozen BK380.out 2; have hfz121_3 := blk_frozen BK380.out 3; have hfz121_4 := blk_frozen BK380.out 4) | (go_at_call 31; (with_reducible refine (pentroughlaw12_ours.calls (fun k_ => k_ < w.heap.size) _ _ l0_0 a0_1 a0_2 a0_3 a0_4 t427 t430 t431 t432 t433 _ ?side1 A98.out).mono ?_); (case side1 => exact Kd.V_mk HC0_0.out (Kd.F_below (Kd.C_F (Kd.heap_int .i64) HR0_0.out) (by repeat (first | (with_reducible first | exact HB.out | apply below_alloc | apply pw_below_drewN | apply below_drew1 | refine below_set ?_ GE380.out | refine below_set ?_ GE399.out) | exact HB.out)))); rintro e w122 ⟨v428, rfl, ho0, hb⟩; have n0_ := Aside0.mk (Kd.V_below (by (with_reducible repeat (first | apply Kd.V_alloc | apply Kd.V_drewN | apply Kd.V_drew)); exact HO_7.out) hb); have n1_ := Aside0.mk (Kd.V_below (by (with_reducible repeat (first | apply Kd.V_alloc | apply Kd.V_drewN | apply Kd.V_drew)); exact HO_400000.out) hb); have n2_ := Aside0.mk (Kd.V_below (by (with_reducible repeat (first | apply Kd.V_alloc | apply Kd.V_drewN | apply Kd.V_drew)); exact HO413.out) hb); have n3_ := Aside0.mk (Kd.V_lower (Kd.V_mono (ok' := fun k_ => k_ ≠ gb380 ∧ k_ ≠ gb399) ho0 (fun k_ hk_ => ⟨Or.elim hk_ (fun hs_ => fun e_ => Nat.not_le.2 hs_ (by rw [e_]; exact GW380.out)) (fun hn_ => (Kd.freshB (g := gb380) (o := .cells #[.slice A0_0 l0_0.length c0_0, .bool a0_1, .int .i64 a0_2, .bool a0_3, .bool a0_4] 48 (0, 0)) (by (with_reducible repeat (first | refine blk_drewN ?_ _ | refine blk_drew ?_ | refine blk_alloc ?_ _)); exact BK380.out) k_ hn_)), Or.elim hk_ (fun hs_ => fun e_ => Nat.not_le.2 hs_ (by rw [e_]; exact GW399.out)) (fun hn_ => (Kd.freshB (g := gb399) (o := .cells #[.slice Ao18 t389.length co18, .bool t392, .int .i64 t393, .bool t394, .bool t395] 51 (0, 0)) (by (with_reducible repeat (first | refine blk_drewN ?_ _ | refine blk_drew ?_ | refine blk_alloc ?_ _)); exact BK399.out) k_ hn_))⟩)) (below_size (by repeat (first | (with_reducible first | exact HB.out | apply below_alloc | apply pw_below_drewN | apply below_drew1 | refine below_set ?_ GE380.out | refine below_set ?_ GE399.out) | exact HB.out)))); have n4_ := Aside0.mk (blk_below (g := gb380) (o := .cells #[.slice A0_0 l0_0.length c0_0, .bool a0_1, .int .i64 a0_2, .bool a0_3, .bool a0_4] 48 (0, 0)) (by (with_reducible repeat (first | refine blk_drewN ?_ _ | refine blk_drew ?_ | refine blk_alloc ?_ _)); exact BK380.out) hb); have n5_ := Aside0.mk (blk_below (g := gb399) (o := .cells #[.slice Ao18 t389.length co18, .bool t392, .int .i64 t393, .bool t394, .bool t395] 51 (0, 0)) (by (with_reducible repeat (first | refine blk_drewN ?_ _ | refine blk_drew ?_ | refine blk_alloc ?_ _)); exact BK399.out) hb); have n6_ := Aside0.mk (below_step (by repeat (first | (with_reducible first | exact HB.out | apply below_alloc | apply pw_below_drewN | apply below_drew1 | refine below_set ?_ GE380.out | refine below_set ?_ GE399.out) | exact HB.out)) hb); clear HO_7; clear HO_400000; clear HO413; clear BK380; clear BK399; clear HB; have HO_7 := n0_; have HO_400000 := n1_; have HO413 := n2_; have HO429 := n3_; have BK380 := n4_; have BK399 := n5_; have HB := n6_; clear n0_ n1_ n2_ n3_ n4_ n5_ n6_; (try clear hb); (try clear hb2); (try clear hk); (try clear hi); (try clear ho0); obtain ⟨Ao123, co123, eo123⟩ := Kd.V_slice HO429.out; subst eo123) | (go_at_call 32; (with_reducible refine (seg_Sane.calls kj9 _ _ t427 t430 t431 t432 t433 false _ ?side1 ?side2 A99.out).mono ?_); (case side1 => repeat (first | exact (Kd.V_reads' HO429.out).2.2 | (with_reducible refine Kd.C_alloc ?_ _) | (with_reducible refine Kd.C_drewN ?_ _) | (with_reducible refine Kd.C_drew ?_))); (case side2 => exact (Kd.V_reads' HO429.out).2.1); rintro e w124 ⟨rfl, hb⟩; have n0_ := Aside0.mk (Kd.V_below (by (with_reducible repeat (first | apply Kd.V_alloc | apply Kd.V_drewN | apply Kd.V_drew)); exact HO_7.out) hb); have n1_ := Aside0.mk (Kd.V_below (by (with_reducible repeat (first | apply Kd.V_alloc | apply Kd.V_drewN | apply Kd.V_drew)); exact HO_400000.out) hb); have n2_ := Aside0.mk (Kd.V_below (by (with_reducible repeat (first | apply Kd.V_alloc | apply Kd.V_drewN | apply Kd.V_drew)); exact HO413.out) hb); have n3_ := Aside0.mk (Kd.V_below (by (with_reducible repeat (first | apply Kd.V_alloc | apply Kd.V_drewN | apply Kd.V_drew)); exact HO429.out) hb); have n4_ := Aside0.mk (blk_below (g := gb380) (o := .cells #[.slice A0_0 l0_0.length c0_0, .bool a0_1, .int .i64 a0_2, .bool a0_3, .bool a0_4] 48 (0, 0)) (by (with_reducible repeat (first | refine blk_drewN ?_ _ | refine blk_drew ?_ | refine blk_alloc ?_ _)); exact BK380.out) hb); have n5_ := Aside0.mk (blk_below (g := gb399) (o := .cells #[.slice Ao18 t389.length co18, .bool t392, .int .i64 t393, .bool t394, .bool t395] 51 (0, 0)) (by (with_reducible repeat (first | refine blk_drewN ?_ _ | refine blk_drew ?_ | refine blk_alloc ?_ _)); exact BK399.out) hb); have n6_ := Aside0.mk (below_step (by repeat (first | (with_reducible first | exact HB.out | apply below_alloc | apply pw_below_drewN | apply below_drew1 | refine below_set ?_ GE380.out | refine below_set ?_ GE399.out) | exact HB.out)) hb); clear HO_7; clear HO_400000; clear HO413; clear HO429; clear BK380; clear BK399; clear HB; have HO_7 := n0_; have HO_400000 := n1_; have HO413 := n2_; have HO429 := n3_; have BK380 := n4_; have BK399 := n5_; have HB := n6_; clear n0_ n1_ n2_ n3_ n4_ n5_ n6_; (try clear hb); (try clear hb2); (try clear hk); (try clear hi)))
                    go_ret
                    exact ⟨by first | rfl | (simp [errW_none, errW_some] <;> rfl) | (simp [*, errW_none, errW_some] <;> rfl), by repeat (first | (with_reducible first | exact HB.out | apply below_alloc | apply pw_below_drewN | apply below_drew1 | refine below_set ?_ GE380.out | refine below_set ?_ GE399.out) | exact HB.out)⟩
            · replace c61 := Bool.eq_false_iff.mpr c61
              subst c61
              have H1 : (some false) = some r := by rw [if_neg (show ¬ (false = true) by decide)] at H; exact H
              clear H
              have H := H1
              clear H1
              obtain rfl := Option.some.inj H
              obtain ⟨Ao125, co125, eo125⟩ := Kd.V_slice HO_7.out
              subst eo125
              go_wp2
              go_ret
              exact ⟨by first | rfl | (simp [errW_none, errW_some] <;> rfl) | (simp [*, errW_none, errW_some] <;> rfl), by repeat (first | (with_reducible first | exact HB.out | apply below_alloc | apply pw_below_drewN | apply below_drew1 | refine below_set ?_ GE380.out | refine below_set ?_ GE399.out) | exact HB.out)⟩

end Go.Proofs.Ytcabijajjceghaa.G
