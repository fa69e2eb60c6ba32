-- PRINTED by print.py (a twelfth state) out of the translation. Not trusted: Lean checks it.
import Derived.Test.YtcabijajjceghaaG0
import Derived.Test.YtcabijajjceghaaG12
import Derived.Test.YtcabijajjceghaaG14
import Derived.Test.YtcabijajjceghaaG15
import Derived.Test.YtcabijajjceghaaG27
namespace Go.Proofs.Ytcabijajjceghaa.G
open Go.RowKit Go.Proofs.YtcabijajjceghaaW.PrintWords Go.Proofs.YtcabijajjceghaaW.PrintLast Go.Proofs.YtcabijajjceghaaW.PrintMore
attribute [local go_sem] max2_int min2_int max_two min_two max_three min_three max_four min_four   -- for this text's walks alone
set_option linter.unusedVariables false
set_option linter.unusedSimpArgs false

/-! ### clus_Ends: function 59 -/
mutual
def clus_Ends.j0 : Nat → Int → Bool → Bool → Int → Bool → Bool → Option (Bool)
  | 0, _, _, _, _, _, _ => none
  | k + 1, x5, x8, x371000, x371001, x371002, x371003 => if x8 = true then (some false) else ((clus_controls.f x371001).bind fun t373 => (if t373 = true then (clus_Ends.j1 k x5 true x371000 x371001 x371002 x371003) else ((clus_controls.f x5).bind fun t374 => (clus_Ends.j1 k x5 t374 x371000 x371001 x371002 x371003))))
def clus_Ends.j1 : Nat → Int → Bool → Bool → Int → Bool → Bool → Option (Bool)
  | 0, _, _, _, _, _, _ => none
  | k + 1, x5, x17, x371000, x371001, x371002, x371003 => if x17 = true then (if x371001 = 1 then (some (x5 != 2)) else (some true)) else ((clus_syllable.f k x371001 x5).bind fun t375 => (if t375 = true then (some false) else (if x5 = 4 then (clus_Ends.j2 k x5 true x371000 x371001 x371002 x371003) else (if x5 = 5 then (clus_Ends.j2 k x5 true x371000 x371001 x371002 x371003) else (if x5 = 8 then (clus_Ends.j2 k x5 true x371000 x371001 x371002 x371003) else (clus_Ends.j2 k x5 (x371001 == 7) x371000 x371001 x371002 x371003))))))
def clus_Ends.j2 : Nat → Int → Bool → Bool → Int → Bool → Bool → Option (Bool)
  | 0, _, _, _, _, _, _ => none
  | k + 1, x5, x37, x371000, x371001, x371002, x371003 => if x37 = true then (some false) else (if x371001 = 5 then (if x371002 = true then (some (x5 != 14)) else (some true)) else (if x371001 = 6 then (if x371003 = true then (some (x5 != 6)) else (some true)) else (some true)))
end
def clus_Ends.f (k : Nat) (a0_0 : Bool) (a0_1 : Int) (a0_2 : Bool) (a0_3 : Bool) (a1 : Int) : Option (Bool) := (prop_Gcb.f k a1).bind fun t371 => ((clus_Sane.f k a0_0 a0_1 a0_2 a0_3).bind fun t372 => (if t372 = true then (clus_Ends.j0 k t371 (!a0_0) a0_0 a0_1 a0_2 a0_3) else (clus_Ends.j0 k t371 true a0_0 a0_1 a0_2 a0_3)))
theorem clus_Ends.mono_l : ∀ k, (∀ y0 y1 y2 y3 y4 y5, LeO (clus_Ends.j0 k y0 y1 y2 y3 y4 y5) (clus_Ends.j0 (k + 1) y0 y1 y2 y3 y4 y5)) ∧ (∀ y0 y1 y2 y3 y4 y5, LeO (clus_Ends.j1 k y0 y1 y2 y3 y4 y5) (clus_Ends.j1 (k + 1) y0 y1 y2 y3 y4 y5)) ∧ (∀ y0 y1 y2 y3 y4 y5, LeO (clus_Ends.j2 k y0 y1 y2 y3 y4 y5) (clus_Ends.j2 (k + 1) y0 y1 y2 y3 y4 y5))
  | 0 => ⟨fun _ _ _ _ _ _ r h => by simp [clus_Ends.j0] at h, fun _ _ _ _ _ _ r h => by simp [clus_Ends.j1] at h, fun _ _ _ _ _ _ r h => by simp [clus_Ends.j2] at h⟩
  | k + 1 => by
    obtain ⟨ih0, ih1, ih2⟩ := clus_Ends.mono_l k
    refine ⟨?_, ?_, ?_⟩
    · intro y0 y1 y2 y3 y4 y5
      unfold clus_Ends.j0
      repeat' first
      | (with_reducible exact ih0 _ _ _ _ _ _)
      | (with_reducible exact ih1 _ _ _ _ _ _)
      | (with_reducible exact ih2 _ _ _ _ _ _)
      | (with_reducible exact clus_Sane.mono _ _ _ _ _)
      | (with_reducible exact clus_syllable.mono _ _ _)
      | (with_reducible exact prop_Gcb.mono _ _)
      | (with_reducible exact LeO.refl _)
      | (with_reducible exact LeO.none _)
      | (with_reducible refine LeO.ite ?_ ?_)
      | (with_reducible refine LeO.bind ?_ (fun _ => ?_))
      | exact ih0 _ _ _ _ _ _
      | exact ih1 _ _ _ _ _ _
      | exact ih2 _ _ _ _ _ _
      | exact clus_Sane.mono _ _ _ _ _
      | exact clus_syllable.mono _ _ _
      | exact prop_Gcb.mono _ _
      | exact LeO.none _
      | refine LeO.ite ?_ ?_
      | refine LeO.bind ?_ (fun _ => ?_)
    · intro y0 y1 y2 y3 y4 y5
      unfold clus_Ends.j1
      repeat' first
      | (with_reducible exact ih0 _ _ _ _ _ _)
      | (with_reducible exact ih1 _ _ _ _ _ _)
      | (with_reducible exact ih2 _ _ _ _ _ _)
      | (with_reducible exact clus_Sane.mono _ _ _ _ _)
      | (with_reducible exact clus_syllable.mono _ _ _)
      | (with_reducible exact prop_Gcb.mono _ _)
      | (with_reducible exact LeO.refl _)
      | (with_reducible exact LeO.none _)
      | (with_reducible refine LeO.ite ?_ ?_)
      | (with_reducible refine LeO.bind ?_ (fun _ => ?_))
      | exact ih0 _ _ _ _ _ _
      | exact ih1 _ _ _ _ _ _
      | exact ih2 _ _ _ _ _ _
      | exact clus_Sane.mono _ _ _ _ _
      | exact clus_syllable.mono _ _ _
      | exact prop_Gcb.mono _ _
      | exact LeO.none _
      | refine LeO.ite ?_ ?_
      | refine LeO.bind ?_ (fun _ => ?_)
    · intro y0 y1 y2 y3 y4 y5
      unfold clus_Ends.j2
      repeat' first
      | (with_reducible exact ih0 _ _ _ _ _ _)
      | (with_reducible exact ih1 _ _ _ _ _ _)
      | (with_reducible exact ih2 _ _ _ _ _ _)
      | (with_reducible exact clus_Sane.mono _ _ _ _ _)
      | (with_reducible exact clus_syllable.mono _ _ _)
      | (with_reducible exact prop_Gcb.mono _ _)
      | (with_reducible exact LeO.refl _)
      | (with_reducible exact LeO.none _)
      | (with_reducible refine LeO.ite ?_ ?_)
      | (with_reducible refine LeO.bind ?_ (fun _ => ?_))
      | exact ih0 _ _ _ _ _ _
      | exact ih1 _ _ _ _ _ _
      | exact ih2 _ _ _ _ _ _
      | exact clus_Sane.mono _ _ _ _ _
      | exact clus_syllable.mono _ _ _
      | exact prop_Gcb.mono _ _
      | exact LeO.none _
      | refine LeO.ite ?_ ?_
      | refine LeO.bind ?_ (fun _ => ?_)
theorem clus_Ends.mono : ∀ a0 a1 a2 a3 a4 k, LeO (clus_Ends.f k a0 a1 a2 a3 a4) (clus_Ends.f (k + 1) a0 a1 a2 a3 a4) := by
  intro a0 a1 a2 a3 a4 k
  obtain ⟨ih0, ih1, ih2⟩ := clus_Ends.mono_l k
  unfold clus_Ends.f
  repeat' first
      | (with_reducible exact ih0 _ _ _ _ _ _)
      | (with_reducible exact ih1 _ _ _ _ _ _)
      | (with_reducible exact ih2 _ _ _ _ _ _)
      | (with_reducible exact clus_Sane.mono _ _ _ _ _)
      | (with_reducible exact clus_syllable.mono _ _ _)
      | (with_reducible exact prop_Gcb.mono _ _)
      | (with_reducible exact LeO.refl _)
      | (with_reducible exact LeO.none _)
      | (with_reducible refine LeO.ite ?_ ?_)
      | (with_reducible refine LeO.bind ?_ (fun _ => ?_))
      | exact ih0 _ _ _ _ _ _
      | exact ih1 _ _ _ _ _ _
      | exact ih2 _ _ _ _ _ _
      | exact clus_Sane.mono _ _ _ _ _
      | exact clus_syllable.mono _ _ _
      | exact prop_Gcb.mono _ _
      | exact LeO.none _
      | refine LeO.ite ?_ ?_
      | refine LeO.bind ?_ (fun _ => ?_)
set_option maxHeartbeats 8000000 in
set_option maxRecDepth 100000 in
theorem clus_Ends.calls (k : Nat) (a0_0 : Bool) (a0_1 : Int) (a0_2 : Bool) (a0_3 : Bool) (a1 : Int) (r : Bool) (w : World) (h : clus_Ends.f k a0_0 a0_1 a0_2 a0_3 a1 = some r) :
    Calls Try.prog 59 #[.agg #[.bool a0_0, .int .i64 a0_1, .bool a0_2, .bool a0_3], .int .i64 a1] w fun e w' => e = .returned (.bool r) ∧ Below w.heap.size w w' := by
  have hu49 := Try.underlying49
  have HB := Aside0.mk (Below.refl w.heap.size w)
  have H : ((prop_Gcb.f k a1).bind fun t371 => ((clus_Sane.f k a0_0 a0_1 a0_2 a0_3).bind fun t372 => (if t372 = true then (clus_Ends.j0 k t371 (!a0_0) a0_0 a0_1 a0_2 a0_3) else (clus_Ends.j0 k t371 true a0_0 a0_1 a0_2 a0_3)))) = some r := h
  clear h
  replace H := Option.bind_eq_some_iff.mp H
  obtain ⟨t371, A30, H⟩ := H
  replace H : ((clus_Sane.f k a0_0 a0_1 a0_2 a0_3).bind fun t372 => (if t372 = true then (clus_Ends.j0 k t371 (!a0_0) a0_0 a0_1 a0_2 a0_3) else (clus_Ends.j0 k t371 true a0_0 a0_1 a0_2 a0_3))) = some r := H
  have A3 := Aside0.mk A30
  clear A30
  have HC4 := Aside0.mk H
  clear H
  go_enter Try.func59, Try.ntmps59
  go_upto_region 2 with (first | ((with_reducible refine gate_dst (N := 2) rfl ?_); refine box_event ?hg (N := 2) ?hd (cs := #[.bool a0_0, .int .i64 a0_1, .bool a0_2, .bool a0_3]) (t := 49) ?hr ?_; (case hd => rfl); (case hg => rfl); (case hr => first | (go_simp; done) | (go_simp; rfl)); intro gb370 hg w5 hbox hb; have n0_ := Aside0.mk (below_step (by repeat (first | (with_reducible first | exact HB.out | apply below_alloc | apply pw_below_drewN | apply below_drew1) | exact HB.out)) hb); have n1_ := Aside0.mk (hbox); have n2_ := Aside0.mk ((by rw [hg]; exact (below_size (by repeat (first | (with_reducible first | exact HB.out | apply below_alloc | apply pw_below_drewN | apply below_drew1) | exact HB.out))) : w.heap.size ≤ gb370)); have n3_ := Aside0.mk ((by rw [hg]; exact (below_size (by repeat (first | (with_reducible first | exact HB.out | apply below_alloc | apply pw_below_drewN | apply below_drew1) | exact HB.out))) : w.heap.size ≤ gb370)); clear HB; have HB := n0_; have BK370 := n1_; have GW370 := n2_; have GE370 := n3_; clear n0_ n1_ n2_ n3_; clear hb hbox hg) | ((with_reducible refine gate_callee (f := 67) rfl ?_); refine goesL_ (some 7) rfl rfl Try.func67 (by kernel_rfl) rfl #[.int .i64 a1] rfl (by (try simp only [List.map_toArray, List.map_cons, List.map_nil]); first | done | rfl | (simp only [List.length_drop, List.length_take]; rfl)) ?_; (with_reducible refine (prop_Gcb.calls k a1 t371 _ A3.out).mono ?_); rintro e w6 ⟨rfl, hb⟩; refine ⟨_, rfl, ?_⟩; have n0_ := Aside0.mk (blk_below (g := gb370) (o := .cells #[.bool a0_0, .int .i64 a0_1, .bool a0_2, .bool a0_3] 49 (0, 0)) (by (with_reducible repeat (first | refine blk_drewN ?_ _ | refine blk_drew ?_ | refine blk_alloc ?_ _)); exact BK370.out) hb); have n1_ := Aside0.mk (below_step (by repeat (first | (with_reducible first | exact HB.out | apply below_alloc | apply pw_below_drewN | apply below_drew1 | refine below_set ?_ GE370.out) | exact HB.out)) hb); clear BK370; clear HB; have BK370 := n0_; have HB := n1_; clear n0_ n1_; (try clear hb); (try clear hb2); (try clear hk); (try clear hi)))
  (try simp only [Act.put, List.setIfInBounds_toArray, List.set_cons_zero, List.set_cons_succ])
  go_cut [8] (fun v8 wc => ∃ (kq : Nat) (x8_3 : Bool), v8 = .bool x8_3 ∧ Aside0 (clus_Ends.j0 kq t371 x8_3 a0_0 a0_1 a0_2 a0_3 = some r) ∧ Aside0 (kq ≤ k) ∧ Aside0 (wc.heap[gb370]? = some (.cells #[.bool a0_0, .int .i64 a0_1, .bool a0_2, .bool a0_3] 49 (0, 0))) ∧ Aside0 (Below w.heap.size w wc))
  case first =>
    have H := HC4.out
    clear HC4
    replace H := Option.bind_eq_some_iff.mp H
    obtain ⟨t372, A70, H⟩ := H
    replace H : (if t372 = true then (clus_Ends.j0 k t371 (!a0_0) a0_0 a0_1 a0_2 a0_3) else (clus_Ends.j0 k t371 true a0_0 a0_1 a0_2 a0_3)) = some r := H
    have A7 := Aside0.mk A70
    clear A70
    by_cases c8 : t372 = true
    · subst c8
      have H1 : (clus_Ends.j0 k t371 (!a0_0) a0_0 a0_1 a0_2 a0_3) = some r := by rw [if_pos rfl] at H; exact H
      clear H
      have H := H1
      clear H1
      have H' := Aside0.mk H
      clear H
      have hcz9_0 : w6.cell? ⟨gb370, 0, none⟩ = some (.bool a0_0) := (blk_cell BK370.out 0).trans rfl
      have hcz9_1 : w6.cell? ⟨gb370, 1, none⟩ = some (.int .i64 a0_1) := (blk_cell BK370.out 1).trans rfl
      have hcz9_2 : w6.cell? ⟨gb370, 2, none⟩ = some (.bool a0_2) := (blk_cell BK370.out 2).trans rfl
      have hcz9_3 : w6.cell? ⟨gb370, 3, none⟩ = some (.bool a0_3) := (blk_cell BK370.out 3).trans rfl
      have hfz9_0 := blk_frozen BK370.out 0
      have hfz9_1 := blk_frozen BK370.out 1
      have hfz9_2 := blk_frozen BK370.out 2
      have hfz9_3 := blk_frozen BK370.out 3
      go_wp2_with (first | ((with_reducible refine gate_callee (f := 55) rfl ?_); refine goesL_ (some 10) rfl rfl Try.func55 (by kernel_rfl) rfl #[.agg #[.bool a0_0, .int .i64 a0_1, .bool a0_2, .bool a0_3]] rfl (by (try simp only [List.map_toArray, List.map_cons, List.map_nil]); first | done | rfl | (simp only [List.length_drop, List.length_take]; rfl)) ?_; (with_reducible refine (clus_Sane.calls k a0_0 a0_1 a0_2 a0_3 true _ A7.out).mono ?_); rintro e w10 ⟨rfl, hb⟩; refine ⟨_, rfl, ?_⟩; have n0_ := Aside0.mk (blk_below (g := gb370) (o := .cells #[.bool a0_0, .int .i64 a0_1, .bool a0_2, .bool a0_3] 49 (0, 0)) (by (with_reducible repeat (first | refine blk_drewN ?_ _ | refine blk_drew ?_ | refine blk_alloc ?_ _)); exact BK370.out) hb); have n1_ := Aside0.mk (below_step (by repeat (first | (with_reducible first | exact HB.out | apply below_alloc | apply pw_below_drewN | apply below_drew1 | refine below_set ?_ GE370.out) | exact HB.out)) hb); clear BK370; clear HB; have BK370 := n0_; have HB := n1_; clear n0_ n1_; (try clear hb); (try clear hb2); (try clear hk); (try clear hi); have hcz11_0 : w10.cell? ⟨gb370, 0, none⟩ = some (.bool a0_0) := (blk_cell BK370.out 0).trans rfl; have hcz11_1 : w10.cell? ⟨gb370, 1, none⟩ = some (.int .i64 a0_1) := (blk_cell BK370.out 1).trans rfl; have hcz11_2 : w10.cell? ⟨gb370, 2, none⟩ = some (.bool a0_2) := (blk_cell BK370.out 2).trans rfl; have hcz11_3 : w10.cell? ⟨gb370, 3, none⟩ = some (.bool a0_3) := (blk_cell BK370.out 3).trans rfl; have hfz11_0 := blk_frozen BK370.out 0; have hfz11_1 := blk_frozen BK370.out 1; have hfz11_2 := blk_frozen BK370.out 2; have hfz11_3 := blk_frozen BK370.out 3))
      go_meet
      case rel => exact ⟨_, (!a0_0), (by first | rfl | (simp; done) | (simp [*]; done)), H', ⟨by first | omega | exact Nat.le_refl _⟩, ⟨by (with_reducible repeat (first | refine blk_drewN ?_ _ | refine blk_drew ?_ | refine blk_alloc ?_ _)); exact BK370.out⟩, ⟨by repeat (first | (with_reducible first | exact HB.out | apply below_alloc | apply pw_below_drewN | apply below_drew1 | refine below_set ?_ GE370.out) | exact HB.out)⟩⟩
    · replace c8 := Bool.eq_false_iff.mpr c8
      subst c8
      have H1 : (clus_Ends.j0 k t371 true a0_0 a0_1 a0_2 a0_3) = some r := by rw [if_neg (show ¬ (false = true) by decide)] at H; exact H
      clear H
      have H := H1
      clear H1
      have H' := Aside0.mk H
      clear H
      have hcz12_0 : w6.cell? ⟨gb370, 0, none⟩ = some (.bool a0_0) := (blk_cell BK370.out 0).trans rfl
      have hcz12_1 : w6.cell? ⟨gb370, 1, none⟩ = some (.int .i64 a0_1) := (blk_cell BK370.out 1).trans rfl
      have hcz12_2 : w6.cell? ⟨gb370, 2, none⟩ = some (.bool a0_2) := (blk_cell BK370.out 2).trans rfl
      have hcz12_3 : w6.cell? ⟨gb370, 3, none⟩ = some (.bool a0_3) := (blk_cell BK370.out 3).trans rfl
      have hfz12_0 := blk_frozen BK370.out 0
      have hfz12_1 := blk_frozen BK370.out 1
      have hfz12_2 := blk_frozen BK370.out 2
      have hfz12_3 := blk_frozen BK370.out 3
      go_wp2_with (first | ((with_reducible refine gate_callee (f := 55) rfl ?_); refine goesL_ (some 10) rfl rfl Try.func55 (by kernel_rfl) rfl #[.agg #[.bool a0_0, .int .i64 a0_1, .bool a0_2, .bool a0_3]] rfl (by (try simp only [List.map_toArray, List.map_cons, List.map_nil]); first | done | rfl | (simp only [List.length_drop, List.length_take]; rfl)) ?_; (with_reducible refine (clus_Sane.calls k a0_0 a0_1 a0_2 a0_3 false _ A7.out).mono ?_); rintro e w13 ⟨rfl, hb⟩; refine ⟨_, rfl, ?_⟩; have n0_ := Aside0.mk (blk_below (g := gb370) (o := .cells #[.bool a0_0, .int .i64 a0_1, .bool a0_2, .bool a0_3] 49 (0, 0)) (by (with_reducible repeat (first | refine blk_drewN ?_ _ | refine blk_drew ?_ | refine blk_alloc ?_ _)); exact BK370.out) hb); have n1_ := Aside0.mk (below_step (by repeat (first | (with_reducible first | exact HB.out | apply below_alloc | apply pw_below_drewN | apply below_drew1 | refine below_set ?_ GE370.out) | exact HB.out)) hb); clear BK370; clear HB; have BK370 := n0_; have HB := n1_; clear n0_ n1_; (try clear hb); (try clear hb2); (try clear hk); (try clear hi)))
      go_meet
      case rel => exact ⟨_, (true), (by first | rfl | (simp; done) | (simp [*]; done)), H', ⟨by first | omega | exact Nat.le_refl _⟩, ⟨by (with_reducible repeat (first | refine blk_drewN ?_ _ | refine blk_drew ?_ | refine blk_alloc ?_ _)); exact BK370.out⟩, ⟨by repeat (first | (with_reducible first | exact HB.out | apply below_alloc | apply pw_below_drewN | apply below_drew1 | refine below_set ?_ GE370.out) | exact HB.out)⟩⟩
  case rest =>
    clear HC4
    try clear p2
    try clear c5
    try clear c6
    try clear c8
    try clear hcz11_0
    try clear hcz11_1
    try clear hcz11_2
    try clear hcz11_3
    try clear hcz12_0
    try clear hcz12_1
    try clear hcz12_2
    try clear hcz12_3
    try clear hcz9_0
    try clear hcz9_1
    try clear hcz9_2
    try clear hcz9_3
    try clear hfz11_0
    try clear hfz11_1
    try clear hfz11_2
    try clear hfz11_3
    try clear hfz12_0
    try clear hfz12_1
    try clear hfz12_2
    try clear hfz12_3
    try clear hfz9_0
    try clear hfz9_1
    try clear hfz9_2
    try clear hfz9_3
    obtain ⟨kq, x8_3, rfl, HA, HJ3, BK370, HB⟩ := hcut
    cases kq with
    | zero => exact absurd HA.out (by simp [clus_Ends.j0])
    | succ kj3 =>
      have H := HA.out
      clear HA
      simp only [clus_Ends.j0] at H
      by_cases c14 : x8_3 = true
      · subst c14
        have H1 : (some false) = some r := by rw [if_pos rfl] at H; exact H
        clear H
        have H := H1
        clear H1
        obtain rfl := Option.some.inj H
        go_wp2
        go_ret
        exact ⟨by first | rfl | (simp [errW_none, errW_some] <;> rfl) | (simp [*, errW_none, errW_some] <;> rfl), by repeat (first | (with_reducible first | exact HB.out | apply below_alloc | apply pw_below_drewN | apply below_drew1 | refine below_set ?_ GE370.out) | exact HB.out)⟩
      · replace c14 := Bool.eq_false_iff.mpr c14
        subst c14
        have H1 : ((clus_controls.f a0_1).bind fun t373 => (if t373 = true then (clus_Ends.j1 kj3 t371 true a0_0 a0_1 a0_2 a0_3) else ((clus_controls.f t371).bind fun t374 => (clus_Ends.j1 kj3 t371 t374 a0_0 a0_1 a0_2 a0_3)))) = some r := by rw [if_neg (show ¬ (false = true) by decide)] at H; exact H
        clear H
        have H := H1
        clear H1
        have HC15 := Aside0.mk H
        clear H
        go_upto_region 4 with (fail)
        go_cut [17] (fun v17 wc => ∃ (kq : Nat) (x17_14 : Bool), v17 = .bool x17_14 ∧ Aside0 (clus_Ends.j1 kq t371 x17_14 a0_0 a0_1 a0_2 a0_3 = some r) ∧ Aside0 (kq ≤ kj3) ∧ Aside0 (wc.heap[gb370]? = some (.cells #[.bool a0_0, .int .i64 a0_1, .bool a0_2, .bool a0_3] 49 (0, 0))) ∧ Aside0 (Below w.heap.size w wc))
        case first =>
          have H := HC15.out
          clear HC15
          replace H := Option.bind_eq_some_iff.mp H
          obtain ⟨t373, A160, H⟩ := H
          replace H : (if t373 = true then (clus_Ends.j1 kj3 t371 true a0_0 a0_1 a0_2 a0_3) else ((clus_controls.f t371).bind fun t374 => (clus_Ends.j1 kj3 t371 t374 a0_0 a0_1 a0_2 a0_3))) = some r := H
          have A16 := Aside0.mk A160
          clear A160
          by_cases c17 : t373 = true
          · subst c17
            have H1 : (clus_Ends.j1 kj3 t371 true a0_0 a0_1 a0_2 a0_3) = some r := by rw [if_pos rfl] at H; exact H
            clear H
            have H := H1
            clear H1
            have H' := Aside0.mk H
            clear H
            have hcz18_0 : wc.cell? ⟨gb370, 0, none⟩ = some (.bool a0_0) := (blk_cell BK370.out 0).trans rfl
            have hcz18_1 : wc.cell? ⟨gb370, 1, none⟩ = some (.int .i64 a0_1) := (blk_cell BK370.out 1).trans rfl
            have hcz18_2 : wc.cell? ⟨gb370, 2, none⟩ = some (.bool a0_2) := (blk_cell BK370.out 2).trans rfl
            have hcz18_3 : wc.cell? ⟨gb370, 3, none⟩ = some (.bool a0_3) := (blk_cell BK370.out 3).trans rfl
            have hfz18_0 := blk_frozen BK370.out 0
            have hfz18_1 := blk_frozen BK370.out 1
            have hfz18_2 := blk_frozen BK370.out 2
            have hfz18_3 := blk_frozen BK370.out 3
            go_wp2_with (first | ((with_reducible refine gate_callee (f := 70) rfl ?_); refine goesL_ (some 20) rfl rfl Try.func70 (by kernel_rfl) rfl #[.int .i64 a0_1] rfl (by (try simp only [List.map_toArray, List.map_cons, List.map_nil]); first | done | rfl | (simp only [List.length_drop, List.length_take]; rfl)) ?_; (with_reducible refine (clus_controls.calls a0_1 true _ A16.out).mono ?_); rintro e w' ⟨rfl, ⟨nd, rfl⟩⟩; refine ⟨_, rfl, ?_⟩))
            go_meet
            case rel => exact ⟨_, (true), (by first | rfl | (simp; done) | (simp [*]; done)), H', ⟨by have := HJ3.out; first | omega | exact Nat.le_refl _⟩, ⟨by (with_reducible repeat (first | refine blk_drewN ?_ _ | refine blk_drew ?_ | refine blk_alloc ?_ _)); exact BK370.out⟩, ⟨by repeat (first | (with_reducible first | exact HB.out | apply below_alloc | apply pw_below_drewN | apply below_drew1 | refine below_set ?_ GE370.out) | exact HB.out)⟩⟩
          · replace c17 := Bool.eq_false_iff.mpr c17
            subst c17
            have H1 : ((clus_controls.f t371).bind fun t374 => (clus_Ends.j1 kj3 t371 t374 a0_0 a0_1 a0_2 a0_3)) = some r := by rw [if_neg (show ¬ (false = true) by decide)] at H; exact H
            clear H
            have H := H1
            clear H1
            replace H := Option.bind_eq_some_iff.mp H
            obtain ⟨t374, A190, H⟩ := H
            replace H : (clus_Ends.j1 kj3 t371 t374 a0_0 a0_1 a0_2 a0_3) = some r := H
            have A19 := Aside0.mk A190
            clear A190
            have H' := Aside0.mk H
            clear H
            have hcz20_0 : wc.cell? ⟨gb370, 0, none⟩ = some (.bool a0_0) := (blk_cell BK370.out 0).trans rfl
            have hcz20_1 : wc.cell? ⟨gb370, 1, none⟩ = some (.int .i64 a0_1) := (blk_cell BK370.out 1).trans rfl
            have hcz20_2 : wc.cell? ⟨gb370, 2, none⟩ = some (.bool a0_2) := (blk_cell BK370.out 2).trans rfl
            have hcz20_3 : wc.cell? ⟨gb370, 3, none⟩ = some (.bool a0_3) := (blk_cell BK370.out 3).trans rfl
            have hfz20_0 := blk_frozen BK370.out 0
            have hfz20_1 := blk_frozen BK370.out 1
            have hfz20_2 := blk_frozen BK370.out 2
            have hfz20_3 := blk_frozen BK370.out 3
            go_wp2_with (first | ((with_reducible refine gate_callee (f := 70) rfl ?_); refine goesL_ (some 20) rfl rfl Try.func70 (by kernel_rfl) rfl #[.int .i64 a0_1] rfl (by (try simp only [List.map_toArray, List.map_cons, List.map_nil]); first | done | rfl | (simp only [List.length_drop, List.length_take]; rfl)) ?_; (with_reducible refine (clus_controls.calls a0_1 false _ A16.out).mono ?_); rintro e w' ⟨rfl, ⟨nd, rfl⟩⟩; refine ⟨_, rfl, ?_⟩) | (go_at_call 70; (with_reducible refine (clus_controls.calls t371 t374 _ A19.out).mono ?_); rintro e w' ⟨rfl, ⟨nd, rfl⟩⟩))
            go_meet
            case rel => exact ⟨_, (t374), (by first | rfl | (simp; done) | (simp [*]; done)), H', ⟨by have := HJ3.out; first | omega | exact Nat.le_refl _⟩, ⟨by (with_reducible repeat (first | refine blk_drewN ?_ _ | refine blk_drew ?_ | refine blk_alloc ?_ _)); exact BK370.out⟩, ⟨by repeat (first | (with_reducible first | exact HB.out | apply below_alloc | apply pw_below_drewN | apply below_drew1 | refine below_set ?_ GE370.out) | exact HB.out)⟩⟩
        case rest =>
          clear HC15
          try clear c1
          try clear p2
          try clear c5
          try clear c6
          try clear c7
          try clear c8
          try clear c14
          try clear c17
          try clear hcz11_0
          try clear hcz11_1
          try clear hcz11_2
          try clear hcz11_3
          try clear hcz12_0
          try clear hcz12_1
          try clear hcz12_2
          try clear hcz12_3
          try clear hcz18_0
          try clear hcz18_1
          try clear hcz18_2
          try clear hcz18_3
          try clear hcz20_0
          try clear hcz20_1
          try clear hcz20_2
          try clear hcz20_3
          try clear hcz9_0
          try clear hcz9_1
          try clear hcz9_2
          try clear hcz9_3
          try clear hfz11_0
          try clear hfz11_1
          try clear hfz11_2
          try clear hfz11_3
          try clear hfz12_0
          try clear hfz12_1
          try clear hfz12_2
          try clear hfz12_3
          try clear hfz18_0
          try clear hfz18_1
          try clear hfz18_2
          try clear hfz18_3
          try clear hfz20_0
          try clear hfz20_1
          try clear hfz20_2
          try clear hfz20_3
          try clear hfz9_0
          try clear hfz9_1
          try clear hfz9_2
          try clear hfz9_3
          try clear p2
          obtain ⟨kq, x17_14, rfl, HA, HJ14, BK370, HB⟩ := hcut
          cases kq with
          | zero => exact absurd HA.out (by simp [clus_Ends.j1])
          | succ kj14 =>
            have H := HA.out
            clear HA
            simp only [clus_Ends.j1] at H
            by_cases c21 : x17_14 = true
            · subst c21
              have H1 : (if a0_1 = 1 then (some (t371 != 2)) else (some true)) = some r := by rw [if_pos rfl] at H; exact H
              clear H
              have H := H1
              clear H1
              by_cases c22 : a0_1 = 1
              · rw [if_pos c22] at H
                have c22b0 : (a0_1 == 1) = true := beq_iff_eq.mpr c22
                have c22b1 : (a0_1 != 1) = false := bne_eq_false_iff_eq.mpr c22
                clear c22
                obtain rfl := Option.some.inj H
                have hcz23_0 : wc.cell? ⟨gb370, 0, none⟩ = some (.bool a0_0) := (blk_cell BK370.out 0).trans rfl
                have hcz23_1 : wc.cell? ⟨gb370, 1, none⟩ = some (.int .i64 a0_1) := (blk_cell BK370.out 1).trans rfl
                have hcz23_2 : wc.cell? ⟨gb370, 2, none⟩ = some (.bool a0_2) := (blk_cell BK370.out 2).trans rfl
                have hcz23_3 : wc.cell? ⟨gb370, 3, none⟩ = some (.bool a0_3) := (blk_cell BK370.out 3).trans rfl
                have hfz23_0 := blk_frozen BK370.out 0
                have hfz23_1 := blk_frozen BK370.out 1
                have hfz23_2 := blk_frozen BK370.out 2
                have hfz23_3 := blk_frozen BK370.out 3
                go_wp2
                go_ret
                exact ⟨by first | rfl | (simp [errW_none, errW_some] <;> rfl) | (simp [*, errW_none, errW_some] <;> rfl), by repeat (first | (with_reducible first | exact HB.out | apply below_alloc | apply pw_below_drewN | apply below_drew1 | refine below_set ?_ GE370.out) | exact HB.out)⟩
              · rw [if_neg c22] at H
                have c22b0 : (a0_1 == 1) = false := beq_eq_false_iff_ne.mpr c22
                have c22b1 : (a0_1 != 1) = true := bne_iff_ne.mpr c22
                obtain rfl := Option.some.inj H
                have hcz24_0 : wc.cell? ⟨gb370, 0, none⟩ = some (.bool a0_0) := (blk_cell BK370.out 0).trans rfl
                have hcz24_1 : wc.cell? ⟨gb370, 1, none⟩ = some (.int .i64 a0_1) := (blk_cell BK370.out 1).trans rfl
                have hcz24_2 : wc.cell? ⟨gb370, 2, none⟩ = some (.bool a0_2) := (blk_cell BK370.out 2).trans rfl
                have hcz24_3 : wc.cell? ⟨gb370, 3, none⟩ = some (.bool a0_3) := (blk_cell BK370.out 3).trans rfl
                have hfz24_0 := blk_frozen BK370.out 0
                have hfz24_1 := blk_frozen BK370.out 1
                have hfz24_2 := blk_frozen BK370.out 2
                have hfz24_3 := blk_frozen BK370.out 3
                go_wp2
                go_ret
                exact ⟨by first | rfl | (simp [errW_none, errW_some] <;> rfl) | (simp [*, errW_none, errW_some] <;> rfl), by repeat (first | (with_reducible first | exact HB.out | apply below_alloc | apply pw_below_drewN | apply below_drew1 | refine below_set ?_ GE370.out) | exact HB.out)⟩
            · replace c21 := Bool.eq_false_iff.mpr c21
              subst c21
              have H1 : ((clus_syllable.f kj14 a0_1 t371).bind fun t375 => (if t375 = true then (some false) else (if t371 = 4 then (clus_Ends.j2 kj14 t371 true a0_0 a0_1 a0_2 a0_3) else (if t371 = 5 then (clus_Ends.j2 kj14 t371 true a0_0 a0_1 a0_2 a0_3) else (if t371 = 8 then (clus_Ends.j2 kj14 t371 true a0_0 a0_1 a0_2 a0_3) else (clus_Ends.j2 kj14 t371 (a0_1 == 7) a0_0 a0_1 a0_2 a0_3)))))) = some r := by rw [if_neg (show ¬ (false = true) by decide)] at H; exact H
              clear H
              have H := H1
              clear H1
              replace H := Option.bind_eq_some_iff.mp H
              obtain ⟨t375, A250, H⟩ := H
              replace H : (if t375 = true then (some false) else (if t371 = 4 then (clus_Ends.j2 kj14 t371 true a0_0 a0_1 a0_2 a0_3) else (if t371 = 5 then (clus_Ends.j2 kj14 t371 true a0_0 a0_1 a0_2 a0_3) else (if t371 = 8 then (clus_Ends.j2 kj14 t371 true a0_0 a0_1 a0_2 a0_3) else (clus_Ends.j2 kj14 t371 (a0_1 == 7) a0_0 a0_1 a0_2 a0_3))))) = some r := H
              have A25 := Aside0.mk A250
              clear A250
              by_cases c26 : t375 = true
              · subst c26
                have H1 : (some false) = some r := by rw [if_pos rfl] at H; exact H
                clear H
                have H := H1
                clear H1
                obtain rfl := Option.some.inj H
                have hcz27_0 : wc.cell? ⟨gb370, 0, none⟩ = some (.bool a0_0) := (blk_cell BK370.out 0).trans rfl
                have hcz27_1 : wc.cell? ⟨gb370, 1, none⟩ = some (.int .i64 a0_1) := (blk_cell BK370.out 1).trans rfl
                have hcz27_2 : wc.cell? ⟨gb370, 2, none⟩ = some (.bool a0_2) := (blk_cell BK370.out 2).trans rfl
                have hcz27_3 : wc.cell? ⟨gb370, 3, none⟩ = some (.bool a0_3) := (blk_cell BK370.out 3).trans rfl
                have hfz27_0 := blk_frozen BK370.out 0
                have hfz27_1 := blk_frozen BK370.out 1
                have hfz27_2 := blk_frozen BK370.out 2
                have hfz27_3 := blk_frozen BK370.out 3
                go_wp2_with (first | ((with_reducible refine gate_callee (f := 71) rfl ?_); refine goesL_ (some 36) rfl rfl Try.func71 (by kernel_rfl) rfl #[.int .i64 a0_1, .int .i64 t371] rfl (by (try simp only [List.map_toArray, List.map_cons, List.map_nil]); first | done | rfl | (simp only [List.length_drop, List.length_take]; rfl)) ?_; (with_reducible refine (clus_syllable.calls kj14 a0_1 t371 true _ A25.out).mono ?_); rintro e w' ⟨rfl, ⟨nd, rfl⟩⟩; refine ⟨_, rfl, ?_⟩))
                go_ret
                exact ⟨by first | rfl | (simp [errW_none, errW_some] <;> rfl) | (simp [*, errW_none, errW_some] <;> rfl), by repeat (first | (with_reducible first | exact HB.out | apply below_alloc | apply pw_below_drewN | apply below_drew1 | refine below_set ?_ GE370.out) | exact HB.out)⟩
              · replace c26 := Bool.eq_false_iff.mpr c26
                subst c26
                have H1 : (if t371 = 4 then (clus_Ends.j2 kj14 t371 true a0_0 a0_1 a0_2 a0_3) else (if t371 = 5 then (clus_Ends.j2 kj14 t371 true a0_0 a0_1 a0_2 a0_3) else (if t371 = 8 then (clus_Ends.j2 kj14 t371 true a0_0 a0_1 a0_2 a0_3) else (clus_Ends.j2 kj14 t371 (a0_1 == 7) a0_0 a0_1 a0_2 a0_3)))) = some r := by rw [if_neg (show ¬ (false = true) by decide)] at H; exact H
                clear H
                have H := H1
                clear H1
                have HC28 := Aside0.mk H
                clear H
                have hcz29_0 : wc.cell? ⟨gb370, 0, none⟩ = some (.bool a0_0) := (blk_cell BK370.out 0).trans rfl
                have hcz29_1 : wc.cell? ⟨gb370, 1, none⟩ = some (.int .i64 a0_1) := (blk_cell BK370.out 1).trans rfl
                have hcz29_2 : wc.cell? ⟨gb370, 2, none⟩ = some (.bool a0_2) := (blk_cell BK370.out 2).trans rfl
                have hcz29_3 : wc.cell? ⟨gb370, 3, none⟩ = some (.bool a0_3) := (blk_cell BK370.out 3).trans rfl
                have hfz29_0 := blk_frozen BK370.out 0
                have hfz29_1 := blk_frozen BK370.out 1
                have hfz29_2 := blk_frozen BK370.out 2
                have hfz29_3 := blk_frozen BK370.out 3
                go_upto_region 8 with (first | ((with_reducible refine gate_callee (f := 71) rfl ?_); refine goesL_ (some 36) rfl rfl Try.func71 (by kernel_rfl) rfl #[.int .i64 a0_1, .int .i64 t371] rfl (by (try simp only [List.map_toArray, List.map_cons, List.map_nil]); first | done | rfl | (simp only [List.length_drop, List.length_take]; rfl)) ?_; (with_reducible refine (clus_syllable.calls kj14 a0_1 t371 false _ A25.out).mono ?_); rintro e w' ⟨rfl, ⟨nd, rfl⟩⟩; refine ⟨_, rfl, ?_⟩))
                (try simp only [Act.put, List.setIfInBounds_toArray, List.set_cons_zero, List.set_cons_succ])
                go_cut [37] (fun v37 wc => ∃ (kq : Nat) (x37_27 : Bool), v37 = .bool x37_27 ∧ Aside0 (clus_Ends.j2 kq t371 x37_27 a0_0 a0_1 a0_2 a0_3 = some r) ∧ Aside0 (kq ≤ kj14) ∧ Aside0 (wc.heap[gb370]? = some (.cells #[.bool a0_0, .int .i64 a0_1, .bool a0_2, .bool a0_3] 49 (0, 0))) ∧ Aside0 (Below w.heap.size w wc))
                case first =>
                  have H := HC28.out
                  clear HC28
                  by_cases c30 : t371 = 4
                  · rw [if_pos c30] at H
                    have c30b0 : (t371 == 4) = true := beq_iff_eq.mpr c30
                    have c30b1 : (t371 != 4) = false := bne_eq_false_iff_eq.mpr c30
                    clear c30
                    (first | rw [c30b0] | (simp only [i64_w, i32_w]; rw [c30b0]) | skip)
                    have H' := Aside0.mk H
                    clear H
                    go_wp2
                    go_meet
                    case rel => exact ⟨_, (true), (by first | rfl | (simp; done) | (simp [*]; done)), H', ⟨by have := HJ3.out; have := HJ14.out; first | omega | exact Nat.le_refl _⟩, ⟨by (with_reducible repeat (first | refine blk_drewN ?_ _ | refine blk_drew ?_ | refine blk_alloc ?_ _)); exact BK370.out⟩, ⟨by repeat (first | (with_reducible first | exact HB.out | apply below_alloc | apply pw_below_drewN | apply below_drew1 | refine below_set ?_ GE370.out) | exact HB.out)⟩⟩
                  · rw [if_neg c30] at H
                    have c30b0 : (t371 == 4) = false := beq_eq_false_iff_ne.mpr c30
                    have c30b1 : (t371 != 4) = true := bne_iff_ne.mpr c30
                    (first | rw [c30b0] | (simp only [i64_w, i32_w]; rw [c30b0]) | skip)
                    by_cases c31 : t371 = 5
                    · rw [if_pos c31] at H
                      have c31b0 : (t371 == 5) = true := beq_iff_eq.mpr c31
                      have c31b1 : (t371 != 5) = false := bne_eq_false_iff_eq.mpr c31
                      clear c31
                      have H' := Aside0.mk H
                      clear H
                      go_wp2
                      go_meet
                      case rel => exact ⟨_, (true), (by first | rfl | (simp; done) | (simp [*]; done)), H', ⟨by have := HJ3.out; have := HJ14.out; first | omega | exact Nat.le_refl _⟩, ⟨by (with_reducible repeat (first | refine blk_drewN ?_ _ | refine blk_drew ?_ | refine blk_alloc ?_ _)); exact BK370.out⟩, ⟨by repeat (first | (with_reducible first | exact HB.out | apply below_alloc | apply pw_below_drewN | apply below_drew1 | refine below_set ?_ GE370.out) | exact HB.out)⟩⟩
                    · rw [if_neg c31] at H
                      have c31b0 : (t371 == 5) = false := beq_eq_false_iff_ne.mpr c31
                      have c31b1 : (t371 != 5) = true := bne_iff_ne.mpr c31
                      by_cases c32 : t371 = 8
                      · rw [if_pos c32] at H
                        have c32b0 : (t371 == 8) = true := beq_iff_eq.mpr c32
                        have c32b1 : (t371 != 8) = false := bne_eq_false_iff_eq.mpr c32
                        clear c32
                        have H' := Aside0.mk H
                        clear H
                        go_wp2
                        go_meet
                        case rel => exact ⟨_, (true), (by first | rfl | (simp; done) | (simp [*]; done)), H', ⟨by have := HJ3.out; have := HJ14.out; first | omega | exact Nat.le_refl _⟩, ⟨by (with_reducible repeat (first | refine blk_drewN ?_ _ | refine blk_drew ?_ | refine blk_alloc ?_ _)); exact BK370.out⟩, ⟨by repeat (first | (with_reducible first | exact HB.out | apply below_alloc | apply pw_below_drewN | apply below_drew1 | refine below_set ?_ GE370.out) | exact HB.out)⟩⟩
                      · rw [if_neg c32] at H
                        have c32b0 : (t371 == 8) = false := beq_eq_false_iff_ne.mpr c32
                        have c32b1 : (t371 != 8) = true := bne_iff_ne.mpr c32
                        have H' := Aside0.mk H
                        clear H
                        have hcz33_0 : wc.cell? ⟨gb370, 0, none⟩ = some (.bool a0_0) := (blk_cell BK370.out 0).trans rfl
                        have hcz33_1 : wc.cell? ⟨gb370, 1, none⟩ = some (.int .i64 a0_1) := (blk_cell BK370.out 1).trans rfl
                        have hcz33_2 : wc.cell? ⟨gb370, 2, none⟩ = some (.bool a0_2) := (blk_cell BK370.out 2).trans rfl
                        have hcz33_3 : wc.cell? ⟨gb370, 3, none⟩ = some (.bool a0_3) := (blk_cell BK370.out 3).trans rfl
                        have hfz33_0 := blk_frozen BK370.out 0
                        have hfz33_1 := blk_frozen BK370.out 1
                        have hfz33_2 := blk_frozen BK370.out 2
                        have hfz33_3 := blk_frozen BK370.out 3
                        go_wp2
                        go_meet
                        case rel => exact ⟨_, ((a0_1 == 7)), (by first | rfl | (simp; done) | (simp [*]; done)), H', ⟨by have := HJ3.out; have := HJ14.out; first | omega | exact Nat.le_refl _⟩, ⟨by (with_reducible repeat (first | refine blk_drewN ?_ _ | refine blk_drew ?_ | refine blk_alloc ?_ _)); exact BK370.out⟩, ⟨by repeat (first | (with_reducible first | exact HB.out | apply below_alloc | apply pw_below_drewN | apply below_drew1 | refine below_set ?_ GE370.out) | exact HB.out)⟩⟩
                case rest =>
                  clear HC28
                  try clear c1
                  try clear c2
                  try clear p2
                  try clear c3
                  try clear c5
                  try clear c6
                  try clear c7
                  try clear c8
                  try clear c14
                  try clear c17
                  try clear c21
                  try clear c22
                  try clear c22b0
                  try clear c22b1
                  try clear c26
                  try clear c30
                  try clear c30b0
                  try clear c30b1
                  try clear c31
                  try clear c31b0
                  try clear c31b1
                  try clear c32
                  try clear c32b0
                  try clear c32b1
                  try clear hcz11_0
                  try clear hcz11_1
                  try clear hcz11_2
                  try clear hcz11_3
                  try clear hcz12_0
                  try clear hcz12_1
                  try clear hcz12_2
                  try clear hcz12_3
                  try clear hcz18_0
                  try clear hcz18_1
                  try clear hcz18_2
                  try clear hcz18_3
                  try clear hcz20_0
                  try clear hcz20_1
                  try clear hcz20_2
                  try clear hcz20_3
                  try clear hcz23_0
                  try clear hcz23_1
                  try clear hcz23_2
                  try clear hcz23_3
                  try clear hcz24_0
                  try clear hcz24_1
                  try clear hcz24_2
                  try clear hcz24_3
                  try clear hcz27_0
                  try clear hcz27_1
                  try clear hcz27_2
                  try clear hcz27_3
                  try clear hcz29_0
                  try clear hcz29_1
                  try clear hcz29_2
                  try clear hcz29_3
                  try clear hcz33_0
                  try clear hcz33_1
                  try clear hcz33_2
                  try clear hcz33_3
                  try clear hcz9_0
                  try clear hcz9_1
                  try clear hcz9_2
                  try clear hcz9_3
                  try clear hfz11_0
                  try clear hfz11_1
                  try clear hfz11_2
                  try clear hfz11_3
                  try clear hfz12_0
                  try clear hfz12_1
                  try clear hfz12_2
                  try clear hfz12_3
                  try clear hfz18_0
                  try clear hfz18_1
                  try clear hfz18_2
                  try clear hfz18_3
                  try clear hfz20_0
                  try clear hfz20_1
                  try clear hfz20_2
                  try clear hfz20_3
                  try clear hfz23_0
                  try clear hfz23_1
                  try clear hfz23_2
                  try clear hfz23_3
                  try clear hfz24_0
                  try clear hfz24_1
                  try clear hfz24_2
                  try clear hfz24_3
                  try clear hfz27_0
                  try clear hfz27_1
                  try clear hfz27_2
                  try clear hfz27_3
                  try clear hfz29_0
                  try clear hfz29_1
                  try clear hfz29_2
                  try clear hfz29_3
                  try clear hfz33_0
                  try clear hfz33_1
                  try clear hfz33_2
                  try clear hfz33_3
                  try clear hfz9_0
                  try clear hfz9_1
                  try clear hfz9_2
                  try clear hfz9_3
                  try clear p2
                  obtain ⟨kq, x37_27, rfl, HA, HJ27, BK370, HB⟩ := hcut
                  cases kq with
                  | zero => exact absurd HA.out (by simp [clus_Ends.j2])
                  | succ kj27 =>
                    have H := HA.out
                    clear HA
                    simp only [clus_Ends.j2] at H
                    by_cases c34 : x37_27 = true
                    · subst c34
                      have H1 : (some false) = some r := by rw [if_pos rfl] at H; exact H
                      clear H
                      have H := H1
                      clear H1
                      obtain rfl := Option.some.inj H
                      go_wp2
                      go_ret
                      exact ⟨by first | rfl | (simp [errW_none, errW_some] <;> rfl) | (simp [*, errW_none, errW_some] <;> rfl), by repeat (first | (with_reducible first | exact HB.out | apply below_alloc | apply pw_below_drewN | apply below_drew1 | refine below_set ?_ GE370.out) | exact HB.out)⟩
                    · replace c34 := Bool.eq_false_iff.mpr c34
                      subst c34
                      have H1 : (if a0_1 = 5 then (if a0_2 = true then (some (t371 != 14)) else (some true)) else (if a0_1 = 6 then (if a0_3 = true then (some (t371 != 6)) else (some true)) else (some true))) = some r := by rw [if_neg (show ¬ (false = true) by decide)] at H; exact H
                      clear H
                      have H := H1
                      clear H1
                      by_cases c35 : a0_1 = 5
                      · rw [if_pos c35] at H
                        have c35b0 : (a0_1 == 5) = true := beq_iff_eq.mpr c35
                        have c35b1 : (a0_1 != 5) = false := bne_eq_false_iff_eq.mpr c35
                        clear c35
                        by_cases c36 : a0_2 = true
                        · subst c36
                          have H1 : (some (t371 != 14)) = some r := by rw [if_pos rfl] at H; exact H
                          clear H
                          have H := H1
                          clear H1
                          obtain rfl := Option.some.inj H
                          have hcz37_0 : wc.cell? ⟨gb370, 0, none⟩ = some (.bool a0_0) := (blk_cell BK370.out 0).trans rfl
                          have hcz37_1 : wc.cell? ⟨gb370, 1, none⟩ = some (.int .i64 a0_1) := (blk_cell BK370.out 1).trans rfl
                          have hcz37_2 : wc.cell? ⟨gb370, 2, none⟩ = some (.bool true) := (blk_cell BK370.out 2).trans rfl
                          have hcz37_3 : wc.cell? ⟨gb370, 3, none⟩ = some (.bool a0_3) := (blk_cell BK370.out 3).trans rfl
                          have hfz37_0 := blk_frozen BK370.out 0
                          have hfz37_1 := blk_frozen BK370.out 1
                          have hfz37_2 := blk_frozen BK370.out 2
                          have hfz37_3 := blk_frozen BK370.out 3
                          go_wp2
                          go_ret
                          exact ⟨by first | rfl | (simp [errW_none, errW_some] <;> rfl) | (simp [*, errW_none, errW_some] <;> rfl), by repeat (first | (with_reducible first | exact HB.out | apply below_alloc | apply pw_below_drewN | apply below_drew1 | refine below_set ?_ GE370.out) | exact HB.out)⟩
                        · replace c36 := Bool.eq_false_iff.mpr c36
                          subst c36
                          have H1 : (some true) = some r := by rw [if_neg (show ¬ (false = true) by decide)] at H; exact H
                          clear H
                          have H := H1
                          clear H1
                          obtain rfl := Option.some.inj H
                          have hcz38_0 : wc.cell? ⟨gb370, 0, none⟩ = some (.bool a0_0) := (blk_cell BK370.out 0).trans rfl
                          have hcz38_1 : wc.cell? ⟨gb370, 1, none⟩ = some (.int .i64 a0_1) := (blk_cell BK370.out 1).trans rfl
                          have hcz38_2 : wc.cell? ⟨gb370, 2, none⟩ = some (.bool false) := (blk_cell BK370.out 2).trans rfl
                          have hcz38_3 : wc.cell? ⟨gb370, 3, none⟩ = some (.bool a0_3) := (blk_cell BK370.out 3).trans rfl
                          have hfz38_0 := blk_frozen BK370.out 0
                          have hfz38_1 := blk_frozen BK370.out 1
                          have hfz38_2 := blk_frozen BK370.out 2
                          have hfz38_3 := blk_frozen BK370.out 3
                          go_wp2
                          go_ret
                          exact ⟨by first | rfl | (simp [errW_none, errW_some] <;> rfl) | (simp [*, errW_none, errW_some] <;> rfl), by repeat (first | (with_reducible first | exact HB.out | apply below_alloc | apply pw_below_drewN | apply below_drew1 | refine below_set ?_ GE370.out) | exact HB.out)⟩
                      · rw [if_neg c35] at H
                        have c35b0 : (a0_1 == 5) = false := beq_eq_false_iff_ne.mpr c35
                        have c35b1 : (a0_1 != 5) = true := bne_iff_ne.mpr c35
                        by_cases c39 : a0_1 = 6
                        · rw [if_pos c39] at H
                          have c39b0 : (a0_1 == 6) = true := beq_iff_eq.mpr c39
                          have c39b1 : (a0_1 != 6) = false := bne_eq_false_iff_eq.mpr c39
                          clear c39
                          by_cases c40 : a0_3 = true
                          · subst c40
                            have H1 : (some (t371 != 6)) = some r := by rw [if_pos rfl] at H; exact H
                            clear H
                            have H := H1
                            clear H1
                            obtain rfl := Option.some.inj H
                            have hcz41_0 : wc.cell? ⟨gb370, 0, none⟩ = some (.bool a0_0) := (blk_cell BK370.out 0).trans rfl
                            have hcz41_1 : wc.cell? ⟨gb370, 1, none⟩ = some (.int .i64 a0_1) := (blk_cell BK370.out 1).trans rfl
                            have hcz41_2 : wc.cell? ⟨gb370, 2, none⟩ = some (.bool a0_2) := (blk_cell BK370.out 2).trans rfl
                            have hcz41_3 : wc.cell? ⟨gb370, 3, none⟩ = some (.bool true) := (blk_cell BK370.out 3).trans rfl
                            have hfz41_0 := blk_frozen BK370.out 0
                            have hfz41_1 := blk_frozen BK370.out 1
                            have hfz41_2 := blk_frozen BK370.out 2
                            have hfz41_3 := blk_frozen BK370.out 3
                            go_wp2
                            go_ret
                            exact ⟨by first | rfl | (simp [errW_none, errW_some] <;> rfl) | (simp [*, errW_none, errW_some] <;> rfl), by repeat (first | (with_reducible first | exact HB.out | apply below_alloc | apply pw_below_drewN | apply below_drew1 | refine below_set ?_ GE370.out) | exact HB.out)⟩
                          · replace c40 := Bool.eq_false_iff.mpr c40
                            subst c40
                            have H1 : (some true) = some r := by rw [if_neg (show ¬ (false = true) by decide)] at H; exact H
                            clear H
                            have H := H1
                            clear H1
                            obtain rfl := Option.some.inj H
                            have hcz42_0 : wc.cell? ⟨gb370, 0, none⟩ = some (.bool a0_0) := (blk_cell BK370.out 0).trans rfl
                            have hcz42_1 : wc.cell? ⟨gb370, 1, none⟩ = some (.int .i64 a0_1) := (blk_cell BK370.out 1).trans rfl
                            have hcz42_2 : wc.cell? ⟨gb370, 2, none⟩ = some (.bool a0_2) := (blk_cell BK370.out 2).trans rfl
                            have hcz42_3 : wc.cell? ⟨gb370, 3, none⟩ = some (.bool false) := (blk_cell BK370.out 3).trans rfl
                            have hfz42_0 := blk_frozen BK370.out 0
                            have hfz42_1 := blk_frozen BK370.out 1
                            have hfz42_2 := blk_frozen BK370.out 2
                            have hfz42_3 := blk_frozen BK370.out 3
                            go_wp2
                            go_ret
                            exact ⟨by first | rfl | (simp [errW_none, errW_some] <;> rfl) | (simp [*, errW_none, errW_some] <;> rfl), by repeat (first | (with_reducible first | exact HB.out | apply below_alloc | apply pw_below_drewN | apply below_drew1 | refine below_set ?_ GE370.out) | exact HB.out)⟩
                        · rw [if_neg c39] at H
                          have c39b0 : (a0_1 == 6) = false := beq_eq_false_iff_ne.mpr c39
                          have c39b1 : (a0_1 != 6) = true := bne_iff_ne.mpr c39
                          obtain rfl := Option.some.inj H
                          have hcz43_0 : wc.cell? ⟨gb370, 0, none⟩ = some (.bool a0_0) := (blk_cell BK370.out 0).trans rfl
                          have hcz43_1 : wc.cell? ⟨gb370, 1, none⟩ = some (.int .i64 a0_1) := (blk_cell BK370.out 1).trans rfl
                          have hcz43_2 : wc.cell? ⟨gb370, 2, none⟩ = some (.bool a0_2) := (blk_cell BK370.out 2).trans rfl
                          have hcz43_3 : wc.cell? ⟨gb370, 3, none⟩ = some (.bool a0_3) := (blk_cell BK370.out 3).trans rfl
                          have hfz43_0 := blk_frozen BK370.out 0
                          have hfz43_1 := blk_frozen BK370.out 1
                          have hfz43_2 := blk_frozen BK370.out 2
                          have hfz43_3 := blk_frozen BK370.out 3
                          go_wp2
                          go_ret
                          exact ⟨by first | rfl | (simp [errW_none, errW_some] <;> rfl) | (simp [*, errW_none, errW_some] <;> rfl), by repeat (first | (with_reducible first | exact HB.out | apply below_alloc | apply pw_below_drewN | apply below_drew1 | refine below_set ?_ GE370.out) | exact HB.out)⟩

end Go.Proofs.Ytcabijajjceghaa.G
