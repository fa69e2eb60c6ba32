-- PRINTED by print.py (a twelfth state) out of the translation. Not trusted: Lean checks it.
import Derived.Test.YtcabijajjceghaaG0
import Derived.Test.YtcabijajjceghaaG21
import Derived.Test.YtcabijajjceghaaHFeedR
namespace Go.Proofs.Ytcabijajjceghaa.G
open Go.RowKit Go.Proofs.YtcabijajjceghaaW.PrintWords Go.Proofs.YtcabijajjceghaaW.PrintLast Go.Proofs.YtcabijajjceghaaW.PrintMore
attribute [local go_sem] max2_int min2_int max_two min_two max_three min_three max_four min_four   -- for this text's walks alone
set_option linter.unusedVariables false
set_option linter.unusedSimpArgs false

/-! ### pentroughref12_All: function 39 -/
def pentroughref12_All.l0 : Nat → List Int → List (List Int) → Int → List Int → Bool → Int → Bool → Bool → Option ((List (List Int)))
  | 0, _, _, _, _, _, _, _, _ => none
  | k + 1, x0, x3, x5, x482000, x482001, x482002, x482003, x482004 => if x5 < (x0.length : Int) then (if 0 ≤ x5 then ((pentroughref12_Feed.f x482000 x482001 x482002 x482003 x482004 (rd x0 x5)).bind fun bt483 => (if (bt483.2.2.2.2.2.length : Int) > 0 then (if x3.length < 5864062014805 then (pentroughref12_All.l0 k x0 (x3 ++ [bt483.2.2.2.2.2]) (wrap64 (x5 + 1)) bt483.1 bt483.2.1 bt483.2.2.1 bt483.2.2.2.1 bt483.2.2.2.2.1) else (none)) else (pentroughref12_All.l0 k x0 x3 (wrap64 (x5 + 1)) bt483.1 bt483.2.1 bt483.2.2.1 bt483.2.2.2.1 bt483.2.2.2.2.1))) else (none)) else ((pentroughref12_End.f x482000 x482001 x482002 x482003 x482004).bind fun t497 => (if (t497.length : Int) > 0 then (if x3.length < 5864062014805 then (some (x3 ++ [t497])) else (none)) else (some x3)))
def pentroughref12_All.f (k : Nat) (l0 : List Int) : Option ((List (List Int))) := pentroughref12_All.l0 k l0 ([] : List (List Int)) 0 ([] : List Int) false 0 false false
theorem pentroughref12_All.mono_l : ∀ k, (∀ y0 y1 y2 y3 y4 y5 y6 y7, LeO (pentroughref12_All.l0 k y0 y1 y2 y3 y4 y5 y6 y7) (pentroughref12_All.l0 (k + 1) y0 y1 y2 y3 y4 y5 y6 y7))
  | 0 => fun _ _ _ _ _ _ _ _ r h => by simp [pentroughref12_All.l0] at h
  | k + 1 => by
    have ih0 := pentroughref12_All.mono_l k
    · intro y0 y1 y2 y3 y4 y5 y6 y7
      unfold pentroughref12_All.l0
      repeat' first
      | (with_reducible exact ih0 _ _ _ _ _ _ _ _)
      | (with_reducible exact LeO.refl _)
      | (with_reducible exact LeO.none _)
      | (with_reducible refine LeO.ite ?_ ?_)
      | (with_reducible refine LeO.bind ?_ (fun _ => ?_))
      | exact ih0 _ _ _ _ _ _ _ _
      | exact LeO.none _
      | refine LeO.ite ?_ ?_
      | refine LeO.bind ?_ (fun _ => ?_)
theorem pentroughref12_All.mono : ∀ a0 k, LeO (pentroughref12_All.f k a0) (pentroughref12_All.f (k + 1) a0) := by
  intro a0 k
  have ih0 := pentroughref12_All.mono_l k
  unfold pentroughref12_All.f
  repeat' first
      | (with_reducible exact ih0 _ _ _ _ _ _ _ _)
      | (with_reducible exact LeO.refl _)
      | (with_reducible exact LeO.none _)
      | (with_reducible refine LeO.ite ?_ ?_)
      | (with_reducible refine LeO.bind ?_ (fun _ => ?_))
      | exact ih0 _ _ _ _ _ _ _ _
      | exact LeO.none _
      | refine LeO.ite ?_ ?_
      | refine LeO.bind ?_ (fun _ => ?_)
def pentroughref12_All.T6 : Bool × List (List Nat × List Nat) := (true, [([], []), ([], []), ([], []), ([1, 2], [1, 2]), ([3], [3]), ([0, 4], [0, 4]), ([5], [5]), ([6], [6]), ([6], [6]), ([], []), ([9, 7, 5, 0, 1, 2, 3, 4, 5, 6, 7, 9], [7, 9]), ([8, 10, 0, 1, 2, 3, 4, 5, 6, 7, 8, 9, 10], [8])])
def pentroughref12_All.B6 : List Nat := [0, 0, 0, 6, 14, 31, 63, 127, 127, 0, 767, 2047]
theorem pentroughref12_All.tab6 : rtab .any (opsOf Try.f39 6) = pentroughref12_All.T6 := by kernel_rfl
theorem pentroughref12_All.bits6 : waitsOk pentroughref12_All.T6.2 pentroughref12_All.B6 = true := by kernel_rfl
set_option maxHeartbeats 8000000 in
set_option maxRecDepth 100000 in
theorem pentroughref12_All.calls (k : Nat) (A0 : Option Addr) (c0 : Nat) (l0 : List Int) (r : List (List Int)) (w : World) (hr0 : Kd.C (Kd.int .i64) w A0 l0.length l0) (hc0 : l0.length ≤ c0) (h : pentroughref12_All.f k l0 = some r) :
    Calls Try.prog 39 #[.slice A0 l0.length c0] w fun e w' => ∃ v0_ : Value, e = .returned (v0_) ∧ Kd.N (Kd.slice 3 (Kd.int .i64)) 22 w' w.heap.size (fun k_ => (w.heap.size ≤ k_)) v0_ r ∧ Below w.heap.size w w' := by
  have hu48 := Try.underlying48
  have HR0 := Aside0.mk hr0
  have HC0 := Aside0.mk hc0
  clear hr0 hc0
  have HB := Aside0.mk (Below.refl w.heap.size w)
  have H : (pentroughref12_All.l0 k l0 ([] : List (List Int)) 0 ([] : List Int) false 0 false false) = some r := h
  clear h
  have H' := Aside0.mk H
  clear H
  go_enter Try.func39, Try.ntmps39
  go_wp2_with (first | ((with_reducible refine gate_dst (N := 4) rfl ?_); refine box_event ?hg (N := 4) ?hd (cs := #[.slice none 0 0, .bool false, .int .i64 0, .bool false, .bool false]) (t := 48) ?hr ?_; (case hd => rfl); (case hg => rfl); (case hr => first | (go_simp; done) | (go_simp; rfl)); intro gb481 hg w2 hbox hb; have n0_ := Aside0.mk (below_step (by repeat (first | (with_reducible first | exact HB.out | apply below_alloc | apply pw_below_drewN | apply below_drew1) | exact HB.out)) hb); have n1_ := Aside0.mk (hbox); have n2_ := Aside0.mk ((by rw [hg]; exact (below_size (by repeat (first | (with_reducible first | exact HB.out | apply below_alloc | apply pw_below_drewN | apply below_drew1) | exact HB.out))) : w.heap.size ≤ gb481)); have n3_ := Aside0.mk ((by rw [hg]; exact (below_size (by repeat (first | (with_reducible first | exact HB.out | apply below_alloc | apply pw_below_drewN | apply below_drew1) | exact HB.out))) : w.heap.size ≤ gb481)); clear HB; have HB := n0_; have BK481 := n1_; have GW481 := n2_; have GE481 := n3_; clear n0_ n1_ n2_ n3_; clear hb hbox hg; have hcz3_0 : w2.cell? ⟨gb481, 0, none⟩ = some (.slice none 0 0) := (blk_cell BK481.out 0).trans rfl; have hcz3_1 : w2.cell? ⟨gb481, 1, none⟩ = some (.bool false) := (blk_cell BK481.out 1).trans rfl; have hcz3_2 : w2.cell? ⟨gb481, 2, none⟩ = some (.int .i64 0) := (blk_cell BK481.out 2).trans rfl; have hcz3_3 : w2.cell? ⟨gb481, 3, none⟩ = some (.bool false) := (blk_cell BK481.out 3).trans rfl; have hcz3_4 : w2.cell? ⟨gb481, 4, none⟩ = some (.bool false) := (blk_cell BK481.out 4).trans rfl; have hfz3_0 := blk_frozen BK481.out 0; have hfz3_1 := blk_frozen BK481.out 1; have hfz3_2 := blk_frozen BK481.out 2; have hfz3_3 := blk_frozen BK481.out 3; have hfz3_4 := blk_frozen BK481.out 4))
  go_loopg [3, 5] k (fun kq v3 v5 w' => ∃ (x3_1 : List (List Int)) (x5_1 : Int) (x482000_1 : List Int) (x482001_1 : Bool) (x482002_1 : Int) (x482003_1 : Bool) (x482004_1 : Bool) (u482000 : Value), v5 = .int .i64 x5_1 ∧ Aside0 (pentroughref12_All.l0 kq l0 x3_1 x5_1 x482000_1 x482001_1 x482002_1 x482003_1 x482004_1 = some r) ∧ Aside0 (kq ≤ k) ∧ Aside0 (Kd.N (Kd.slice 3 (Kd.int .i64)) 22 w' w.heap.size (fun k_ => (w.heap.size ≤ k_) ∧ k_ ≠ gb481) v3 x3_1) ∧ Aside0 (Kd.V (Kd.int .i64) 3 w' w.heap.size (fun k_ => (w.heap.size ≤ k_) ∧ some k_ ≠ (v3 : Value).ownBlock ∧ k_ ≠ gb481) u482000 x482000_1) ∧ Aside0 (w'.heap[gb481]? = some (.cells #[u482000, .bool x482001_1, .int .i64 x482002_1, .bool x482003_1, .bool x482004_1] 48 (0, 0))) ∧ Aside0 (Below w.heap.size w w'))
  case atStart => exact ⟨(([] : List (List Int))), (0), (([] : List Int)), (false), (0), (false), (false), (.slice none 0 0), (by first | rfl | (simp; done) | (simp [*]; done)), H', ⟨Nat.le_refl _⟩, ⟨by first | exact Kd.S_nil _ _ _ _ _ | exact Kd.N_nil _ _ _ _ _ | exact Kd.V_nil _ _ _ _ _ | exact Kd.Q_nil _ _ _ _ _ | exact Kd.R_nil _ _ _ _ _⟩, ⟨Kd.V_nil _ _ _ _ _⟩, ⟨by (with_reducible repeat (first | refine blk_drewN ?_ _ | refine blk_drew ?_ | refine blk_alloc ?_ _)); refine blk_put (cs := #[.slice none 0 0, .bool false, .int .i64 0, .bool false, .bool false]) ?_ 4 _ rfl; (with_reducible repeat (first | refine blk_drewN ?_ _ | refine blk_drew ?_ | refine blk_alloc ?_ _)); refine blk_put (cs := #[.slice none 0 0, .bool false, .int .i64 0, .bool false, .bool false]) ?_ 3 _ rfl; (with_reducible repeat (first | refine blk_drewN ?_ _ | refine blk_drew ?_ | refine blk_alloc ?_ _)); refine blk_put (cs := #[.slice none 0 0, .bool false, .int .i64 0, .bool false, .bool false]) ?_ 2 _ rfl; (with_reducible repeat (first | refine blk_drewN ?_ _ | refine blk_drew ?_ | refine blk_alloc ?_ _)); refine blk_put (cs := #[.slice none 0 0, .bool false, .int .i64 0, .bool false, .bool false]) ?_ 1 _ rfl; (with_reducible repeat (first | refine blk_drewN ?_ _ | refine blk_drew ?_ | refine blk_alloc ?_ _)); refine blk_put (cs := #[.slice none 0 0, .bool false, .int .i64 0, .bool false, .bool false]) ?_ 0 _ rfl; (with_reducible repeat (first | refine blk_drewN ?_ _ | refine blk_drew ?_ | refine blk_alloc ?_ _)); exact BK481.out⟩, ⟨by repeat (first | (with_reducible first | exact HB.out | apply below_alloc | apply pw_below_drewN | apply below_drew1 | refine below_set ?_ GE481.out) | exact HB.out)⟩⟩
  case round =>
    clear H'
    try clear p2
    try clear c3
    try clear hcz3_0
    try clear hcz3_1
    try clear hcz3_2
    try clear hcz3_3
    try clear hcz3_4
    try clear hfz3_0
    try clear hfz3_1
    try clear hfz3_2
    try clear hfz3_3
    try clear hfz3_4
    obtain ⟨x3_1, x5_1, x482000_1, x482001_1, x482002_1, x482003_1, x482004_1, u482000, rfl, HA, HK1, HO_3, HO_482000, BK481, HB⟩ := hrel
    cases gk with
    | zero => exact absurd HA.out (by simp [pentroughref12_All.l0])
    | succ k1 =>
      have H := HA.out
      clear HA
      simp only [pentroughref12_All.l0] at H
      by_cases c4 : x5_1 < (l0.length : Int)
      · rw [if_pos c4] at H
        have c4b0 : decide (x5_1 < (l0.length : Int)) = true := decide_eq_true c4
        clear c4
        by_cases c5 : 0 ≤ x5_1
        · rw [if_pos c5] at H
          have c5b0 : decide (0 ≤ x5_1) = true := decide_eq_true c5
          clear c5
          replace H := Option.bind_eq_some_iff.mp H
          obtain ⟨⟨t483, t486, t487, t488, t489, t490⟩, A60, H⟩ := H
          replace H : (if (t490.length : Int) > 0 then (if x3_1.length < 5864062014805 then (pentroughref12_All.l0 k1 l0 (x3_1 ++ [t490]) (wrap64 (x5_1 + 1)) t483 t486 t487 t488 t489) else (none)) else (pentroughref12_All.l0 k1 l0 x3_1 (wrap64 (x5_1 + 1)) t483 t486 t487 t488 t489)) = some r := H
          have A6 := Aside0.mk A60
          clear A60
          by_cases c7 : (t490.length : Int) > 0
          · rw [if_pos c7] at H
            have c7b0 : decide (0 < (t490.length : Int)) = true := decide_eq_true c7
            have c7b1 : decide (0 < t490.length) = true := decide_eq_true (by omega)
            clear c7
            by_cases c8 : x3_1.length < 5864062014805
            · rw [if_pos c8] at H
              have LMc8 := Aside0.mk c8
              clear c8
              obtain ⟨y494, hy494⟩ : ∃ y_ : List (List Int), y_ = (x3_1 ++ [t490]) := ⟨_, rfl⟩
              replace H : (pentroughref12_All.l0 k1 l0 y494 (wrap64 (x5_1 + 1)) t483 t486 t487 t488 t489) = some r := by first | (rw [hy494]; with_reducible exact H) | (have H2_ := (Option.bind_some _ _).symm.trans H; rw [hy494]; with_reducible exact H2_) | (have H2_ := (Option.bind_some _ _).symm.trans H; with_reducible exact H2_) | with_reducible exact H | (rw [hy494]; exact H) | exact H
              have Ny494 := Aside0.mk hy494
              clear hy494
              have H' := Aside0.mk H
              clear H
              obtain ⟨Ao9, co9, eo9⟩ := Kd.V_slice HO_482000.out
              subst eo9
              try go_wp2
              have n0_ := Aside0.mk (Kd.N_drew HO_3.out)
              have n1_ := Aside0.mk (Kd.V_drew HO_482000.out)
              have n2_ := Aside0.mk (blk_drew BK481.out)
              have n3_ := Aside0.mk (below_drew1 HB.out)
              clear HO_3
              clear HO_482000
              clear BK481
              clear HB
              have HO_3 := n0_
              have HO_482000 := n1_
              have BK481 := n2_
              have HB := n3_
              clear n0_ n1_ n2_ n3_
              have p482 : 0 ≤ (x5_1 : Int) := of_decide_eq_true (by first | (with_reducible assumption) | assumption)
              have q482 : x5_1 < (l0.length : Int) := of_decide_eq_true (by first | (with_reducible assumption) | assumption)
              obtain ⟨ad482, e482, hx482_0⟩ := Kd.at_int HR0.out x5_1 p482 q482
              have hw482_0 := hx482_0
              cases e482
              replace hx482_0 := (HB.out.cell (World.block_lt_of_cell? w _ hx482_0)).trans hx482_0
              replace p482 := eq_true p482
              replace q482 := eq_true q482
              refine start_ (n := 12) (S := fun w' => w'.cell? ⟨gb481, 0, none⟩ = some (.slice Ao9 x482000_1.length co9) ∧ w'.cell? ⟨gb481, 1, none⟩ = some (.bool x482001_1) ∧ w'.cell? ⟨gb481, 2, none⟩ = some (.int .i64 x482002_1) ∧ w'.cell? ⟨gb481, 3, none⟩ = some (.bool x482003_1) ∧ w'.cell? ⟨gb481, 4, none⟩ = some (.bool x482004_1) ∧ w'.cell? (ad482.add (x5_1).toNat) = some (.int .i64 (rd l0 x5_1))) (ds := []) #[false, false, false, false, false, false, false, false, false, false, false, false] (by kernel_rfl) rfl rfl ⟨(blk_cell BK481.out 0).trans rfl, (blk_cell BK481.out 1).trans rfl, (blk_cell BK481.out 2).trans rfl, (blk_cell BK481.out 3).trans rfl, (blk_cell BK481.out 4).trans rfl, ((HB.out.cell (World.block_lt_of_cell? w _ hw482_0)).trans hw482_0)⟩ (fun hHeld => ?_); refine with_tabW pentroughref12_All.tab6 pentroughref12_All.bits6 (fun HT_ HW_ => ?_)
              generalize wr.drew = w10 at HO_3 HO_482000 BK481 HB hx482_0 hHeld ⊢
              refine pure_ (i := 1) (N := some 18) (v := ?_) (a' := ?_) #[false, true, false, false, false, false, false, false, false, false, false, false] rfl rfl (any_of HT_.out (by kernel_rfl)) (fun _ _ _ h => h) (Or.inl ⟨by rfl, ?_⟩) ?_ ?_
              rotate_left
              · intro w'
                go_simp
                with_reducible rfl
              rotate_left
              · simp only [Act.put, List.setIfInBounds_toArray, List.set_cons_zero, List.set_cons_succ, i64_w, i32_w]
                rfl
              refine pure_ (i := 2) (N := some 19) (v := ?_) (a' := ?_) #[false, true, true, false, false, false, false, false, false, false, false, false] rfl rfl (any_of HT_.out (by kernel_rfl)) (fun _ _ _ h => h) (Or.inl ⟨by rfl, ?_⟩) ?_ ?_
              rotate_left
              · intro w'
                go_simp
                with_reducible rfl
              rotate_left
              · simp only [Act.put, List.setIfInBounds_toArray, List.set_cons_zero, List.set_cons_succ, i64_w, i32_w]
                rfl
              refine pure_ (i := 3) (N := some 20) (v := ?_) (a' := ?_) #[false, true, true, true, false, false, false, false, false, false, false, false] rfl rfl (any_of HT_.out (by kernel_rfl)) (fun _ _ _ h => h) (Or.inl ⟨by rfl, ?_⟩) ?_ ?_
              rotate_left
              · intro w'
                go_simp
                with_reducible rfl
              rotate_left
              · simp only [Act.put, List.setIfInBounds_toArray, List.set_cons_zero, List.set_cons_succ, i64_w, i32_w]
                rfl
              refine take_ (i := 0) (N := some 17) (v := ?_) (a' := ?_) #[true, true, true, true, false, false, false, false, false, false, false, false] rfl rfl (take_ofW HT_.out HW_.out (by kernel_rfl)) (fun _ _ _ h => h) (Or.inl ⟨by rfl, ?_⟩) hHeld ?_ ?_
              rotate_left
              · rintro w' ⟨s0, s1, s2, s3, s4, s5⟩
                go_simp
                with_reducible rfl
              rotate_left
              · simp only [Act.put, List.setIfInBounds_toArray, List.set_cons_zero, List.set_cons_succ, i64_w, i32_w]
                rfl
              refine take_ (i := 4) (N := some 21) (v := ?_) (a' := ?_) #[true, true, true, true, true, false, false, false, false, false, false, false] rfl rfl (take_ofW HT_.out HW_.out (by kernel_rfl)) (fun _ _ _ h => h) (Or.inl ⟨by rfl, ?_⟩) hHeld ?_ ?_
              rotate_left
              · rintro w' ⟨s0, s1, s2, s3, s4, s5⟩
                go_simp
                with_reducible rfl
              rotate_left
              · simp only [Act.put, List.setIfInBounds_toArray, List.set_cons_zero, List.set_cons_succ, i64_w, i32_w]
                rfl
              refine join_ (σ := Value × Value × Nat) 2 #[true, true, true, true, true, true, true, true, true, true, false, false] (fun s_ => [(22, .tuple #[.agg #[s_.1, .bool t486, .int .i64 t487, .bool t488, .bool t489], s_.2.1]), (6, .pointer (some ⟨s_.2.2, 0, none⟩)), (16, .tuple #[.agg #[s_.1, .bool t486, .int .i64 t487, .bool t488, .bool t489], s_.2.1]), (23, .agg #[s_.1, .bool t486, .int .i64 t487, .bool t488, .bool t489]), (24, s_.2.1)]) (fun s_ w' => (w'.cell? ⟨gb481, 0, none⟩ = some (.slice Ao9 x482000_1.length co9) ∧ w'.cell? ⟨gb481, 1, none⟩ = some (.bool x482001_1) ∧ w'.cell? ⟨gb481, 2, none⟩ = some (.int .i64 x482002_1) ∧ w'.cell? ⟨gb481, 3, none⟩ = some (.bool x482003_1) ∧ w'.cell? ⟨gb481, 4, none⟩ = some (.bool x482004_1) ∧ w'.cell? (ad482.add (x5_1).toNat) = some (.int .i64 (rd l0 x5_1))) ∧ (Kd.V (Kd.int .i64) 3 w' w.heap.size (fun k_ => (w.heap.size ≤ k_) ∧ some k_ ≠ (u3 : Value).ownBlock ∧ k_ ≠ gb481 ∧ k_ ≠ s_.2.2) s_.1 t483) ∧ (Kd.V (Kd.int .i64) 3 w' w.heap.size (fun k_ => (w.heap.size ≤ k_) ∧ some k_ ≠ (u3 : Value).ownBlock ∧ k_ ≠ gb481 ∧ k_ ≠ s_.2.2) s_.2.1 t490) ∧ (Kd.N (Kd.slice 3 (Kd.int .i64)) 22 w' w.heap.size (fun k_ => (w.heap.size ≤ k_) ∧ k_ ≠ gb481 ∧ k_ ≠ s_.2.2) u3 x3_1) ∧ (Kd.V (Kd.int .i64) 3 w' w.heap.size (fun k_ => (w.heap.size ≤ k_) ∧ some k_ ≠ (u3 : Value).ownBlock ∧ k_ ≠ gb481 ∧ k_ ≠ s_.2.2) (.slice Ao9 x482000_1.length co9) x482000_1) ∧ (w'.heap[gb481]? = some (.cells #[.slice Ao9 x482000_1.length co9, .bool x482001_1, .int .i64 x482002_1, .bool x482003_1, .bool x482004_1] 48 (0, 0))) ∧ (w'.heap[s_.2.2]? = some (.cells #[.slice none 0 0, .bool false, .int .i64 0, .bool false, .bool false] 48 (0, 0))) ∧ (w.heap.size ≤ s_.2.2) ∧ (w.heap.size ≤ s_.2.2) ∧ (gb481 ≠ s_.2.2) ∧ (s_.2.2 ≠ gb481) ∧ (Below w.heap.size w w')) ?_ ?_
              rotate_left
              · intro hCont
                refine two_ (i := 5) (j := 9) (Ni := some 22) (Nj := some 6) #[true, true, true, true, true, true, false, false, false, false, false, false] #[true, true, true, true, true, false, false, false, false, true, false, false] rfl rfl rfl rfl (two_of HT_.out (by kernel_rfl)) (by decide) (by decide) (fun K hK => ?_) (fun K hK => ?_)
                · skip
                  refine goes_ Try.func33 (by kernel_rfl) rfl #[.agg #[.slice Ao9 x482000_1.length co9, .bool x482001_1, .int .i64 x482002_1, .bool x482003_1, .bool x482004_1], .int .i64 (rd l0 x5_1)] (by rfl) rfl rfl (by (try simp only [List.map_toArray, List.map_cons, List.map_nil]); first | done | rfl | (simp only [List.length_drop, List.length_take]; rfl)) ?_
                  with_reducible refine (pentroughref12_Feed.calls (fun k_ => ((w.heap.size ≤ k_) ∧ (some k_ ≠ (u3 : Value).ownBlock ∧ k_ ≠ gb481))) _ _ x482000_1 x482001_1 x482002_1 x482003_1 x482004_1 (rd l0 x5_1) t483 t486 t487 t488 t489 t490 _ ?side1 A6.out).mono ?_
                  (case side1 => exact HO_482000.out)
                  rintro e w11 ⟨v484, v491, rfl, ho0, ho1, hb⟩
                  refine ⟨_, rfl, ?_⟩
                  have n0_ := Aside0.mk (Kd.N_below (by (with_reducible repeat (first | apply Kd.N_alloc | apply Kd.N_drewN | apply Kd.N_drew)); exact HO_3.out) hb)
                  have n1_ := Aside0.mk (Kd.V_below (by (with_reducible repeat (first | apply Kd.V_alloc | apply Kd.V_drewN | apply Kd.V_drew)); exact HO_482000.out) hb)
                  have n2_ := Aside0.mk (Kd.V_lower (Kd.V_mono (ok' := fun k_ => (w.heap.size ≤ k_) ∧ some k_ ≠ (u3 : Value).ownBlock ∧ k_ ≠ gb481) ho0 (fun k_ hk_ => ⟨Or.elim hk_ (fun hs_ => hs_.1) (fun hn_ => (Nat.le_trans (below_size (by repeat (first | (with_reducible first | exact HB.out | apply below_alloc | apply pw_below_drewN | apply below_drew1 | refine below_set ?_ GE481.out) | exact HB.out))) hn_)), Or.elim hk_ (fun hs_ => hs_.2.1) (fun hn_ => (Kd.fresh' (Kd.N_lt (by (with_reducible repeat (first | apply Kd.N_alloc | apply Kd.N_drewN | apply Kd.N_drew)); exact HO_3.out)) k_ hn_)), Or.elim hk_ (fun hs_ => hs_.2.2) (fun hn_ => (Kd.freshB (g := gb481) (o := .cells #[.slice Ao9 x482000_1.length co9, .bool x482001_1, .int .i64 x482002_1, .bool x482003_1, .bool x482004_1] 48 (0, 0)) (by (with_reducible repeat (first | refine blk_drewN ?_ _ | refine blk_drew ?_ | refine blk_alloc ?_ _)); exact BK481.out) k_ hn_))⟩)) (below_size (by repeat (first | (with_reducible first | exact HB.out | apply below_alloc | apply pw_below_drewN | apply below_drew1 | refine below_set ?_ GE481.out) | exact HB.out))))
                  have n3_ := Aside0.mk (Kd.V_lower (Kd.V_mono (ok' := fun k_ => (w.heap.size ≤ k_) ∧ some k_ ≠ (u3 : Value).ownBlock ∧ k_ ≠ gb481) ho1 (fun k_ hk_ => ⟨Or.elim hk_ (fun hs_ => hs_.1) (fun hn_ => (Nat.le_trans (below_size (by repeat (first | (with_reducible first | exact HB.out | apply below_alloc | apply pw_below_drewN | apply below_drew1 | refine below_set ?_ GE481.out) | exact HB.out))) hn_)), Or.elim hk_ (fun hs_ => hs_.2.1) (fun hn_ => (Kd.fresh' (Kd.N_lt (by (with_reducible repeat (first | apply Kd.N_alloc | apply Kd.N_drewN | apply Kd.N_drew)); exact HO_3.out)) k_ hn_)), Or.elim hk_ (fun hs_ => hs_.2.2) (fun hn_ => (Kd.freshB (g := gb481) (o := .cells #[.slice Ao9 x482000_1.length co9, .bool x482001_1, .int .i64 x482002_1, .bool x482003_1, .bool x482004_1] 48 (0, 0)) (by (with_reducible repeat (first | refine blk_drewN ?_ _ | refine blk_drew ?_ | refine blk_alloc ?_ _)); exact BK481.out) k_ hn_))⟩)) (below_size (by repeat (first | (with_reducible first | exact HB.out | apply below_alloc | apply pw_below_drewN | apply below_drew1 | refine below_set ?_ GE481.out) | exact HB.out))))
                  have n4_ := Aside0.mk (blk_below (g := gb481) (o := .cells #[.slice Ao9 x482000_1.length co9, .bool x482001_1, .int .i64 x482002_1, .bool x482003_1, .bool x482004_1] 48 (0, 0)) (by (with_reducible repeat (first | refine blk_drewN ?_ _ | refine blk_drew ?_ | refine blk_alloc ?_ _)); exact BK481.out) hb)
                  have n5_ := Aside0.mk (below_step (by repeat (first | (with_reducible first | exact HB.out | apply below_alloc | apply pw_below_drewN | apply below_drew1 | refine below_set ?_ GE481.out) | exact HB.out)) hb)
                  clear HO_3
                  clear HO_482000
                  clear BK481
                  clear HB
                  have HO_3 := n0_
                  have HO_482000 := n1_
                  have HO485 := n2_
                  have HO492 := n3_
                  have BK481 := n4_
                  have HB := n5_
                  clear n0_ n1_ n2_ n3_ n4_ n5_
                  (try clear hb)
                  (try clear hb2)
                  (try clear hk)
                  (try clear hi)
                  (try clear ho0)
                  (try clear ho1)
                  refine hK.out _ _ ⟨(blk_cell BK481.out 0).trans rfl, (blk_cell BK481.out 1).trans rfl, (blk_cell BK481.out 2).trans rfl, (blk_cell BK481.out 3).trans rfl, (blk_cell BK481.out 4).trans rfl, ((HB.out.cell (World.block_lt_of_cell? w _ hw482_0)).trans hw482_0)⟩ (fun hHeld => ?_)
                  clear hK K
                  refine norm_ (a' := ?_) ?_ ?_
                  rotate_left
                  · show Act.put _ (some 22) _ = _
                    simp only [Act.put, List.setIfInBounds_toArray, List.set_cons_zero, List.set_cons_succ, i64_w, i32_w]
                    rfl
                  refine pure_ (i := 6) (N := some 16) (v := ?_) (a' := ?_) #[true, true, true, true, true, true, true, false, false, false, false, false] rfl rfl (any_of HT_.out (by kernel_rfl)) (fun _ _ _ h => h) (Or.inl ⟨by rfl, ?_⟩) ?_ ?_
                  rotate_left
                  · intro w'
                    go_simp
                    with_reducible rfl
                  rotate_left
                  · simp only [Act.put, List.setIfInBounds_toArray, List.set_cons_zero, List.set_cons_succ, i64_w, i32_w]
                    rfl
                  refine pure_ (i := 7) (N := some 23) (v := ?_) (a' := ?_) #[true, true, true, true, true, true, true, true, false, false, false, false] rfl rfl (any_of HT_.out (by kernel_rfl)) (fun _ _ _ h => h) (Or.inl ⟨by rfl, ?_⟩) ?_ ?_
                  rotate_left
                  · intro w'
                    go_simp
                    with_reducible rfl
                  rotate_left
                  · simp only [Act.put, List.setIfInBounds_toArray, List.set_cons_zero, List.set_cons_succ, i64_w, i32_w]
                    rfl
                  refine pure_ (i := 8) (N := some 24) (v := ?_) (a' := ?_) #[true, true, true, true, true, true, true, true, true, false, false, false] rfl rfl (any_of HT_.out (by kernel_rfl)) (fun _ _ _ h => h) (Or.inl ⟨by rfl, ?_⟩) ?_ ?_
                  rotate_left
                  · intro w'
                    go_simp
                    with_reducible rfl
                  rotate_left
                  · simp only [Act.put, List.setIfInBounds_toArray, List.set_cons_zero, List.set_cons_succ, i64_w, i32_w]
                    rfl
                  refine one_ (i := 9) (N := some 6) #[true, true, true, true, true, true, true, true, true, true, false, false] rfl rfl (one_of HT_.out (by kernel_rfl)) (by decide) (fun K hK => ?_)
                  refine box_step ?hg (N := 6) ?hd (cs := #[.slice none 0 0, .bool false, .int .i64 0, .bool false, .bool false]) (t := 48) ?hr ?_; (case hd => rfl); (case hg => rfl); (case hr => first | (go_simp; done) | (go_simp; rfl))
                  intro gb493 hg w12 hbox hb
                  have n0_ := Aside0.mk (Kd.N_below (Kd.N_elderB (by (with_reducible repeat (first | apply Kd.N_alloc | apply Kd.N_drewN | apply Kd.N_drew)); exact HO_3.out) gb493 (Nat.le_of_eq hg.symm)) hb)
                  have n1_ := Aside0.mk (Kd.V_below (Kd.V_elderB (by (with_reducible repeat (first | apply Kd.V_alloc | apply Kd.V_drewN | apply Kd.V_drew)); exact HO_482000.out) gb493 (Nat.le_of_eq hg.symm)) hb)
                  have n2_ := Aside0.mk (Kd.V_below (Kd.V_elderB (by (with_reducible repeat (first | apply Kd.V_alloc | apply Kd.V_drewN | apply Kd.V_drew)); exact HO485.out) gb493 (Nat.le_of_eq hg.symm)) hb)
                  have n3_ := Aside0.mk (Kd.V_below (Kd.V_elderB (by (with_reducible repeat (first | apply Kd.V_alloc | apply Kd.V_drewN | apply Kd.V_drew)); exact HO492.out) gb493 (Nat.le_of_eq hg.symm)) hb)
                  have n4_ := Aside0.mk (blk_below (g := gb481) (o := .cells #[.slice Ao9 x482000_1.length co9, .bool x482001_1, .int .i64 x482002_1, .bool x482003_1, .bool x482004_1] 48 (0, 0)) (by (with_reducible repeat (first | refine blk_drewN ?_ _ | refine blk_drew ?_ | refine blk_alloc ?_ _)); exact BK481.out) hb)
                  have n5_ := Aside0.mk (below_step (by repeat (first | (with_reducible first | exact HB.out | apply below_alloc | apply pw_below_drewN | apply below_drew1 | refine below_set ?_ GE481.out) | exact HB.out)) hb)
                  have n6_ := Aside0.mk (hbox)
                  have n7_ := Aside0.mk ((by rw [hg]; exact (below_size (by repeat (first | (with_reducible first | exact HB.out | apply below_alloc | apply pw_below_drewN | apply below_drew1 | refine below_set ?_ GE481.out) | exact HB.out))) : w.heap.size ≤ gb493))
                  have n8_ := Aside0.mk ((by rw [hg]; exact (below_size (by repeat (first | (with_reducible first | exact HB.out | apply below_alloc | apply pw_below_drewN | apply below_drew1 | refine below_set ?_ GE481.out) | exact HB.out))) : w.heap.size ≤ gb493))
                  have n9_ := Aside0.mk ((by rw [hg]; exact Nat.ne_of_lt (blk_lt (g := gb481) (o := .cells #[.slice Ao9 x482000_1.length co9, .bool x482001_1, .int .i64 x482002_1, .bool x482003_1, .bool x482004_1] 48 (0, 0)) (by (with_reducible repeat (first | refine blk_drewN ?_ _ | refine blk_drew ?_ | refine blk_alloc ?_ _)); exact BK481.out)) : gb481 ≠ gb493))
                  have n10_ := Aside0.mk ((by rw [hg]; exact Nat.ne_of_gt (blk_lt (g := gb481) (o := .cells #[.slice Ao9 x482000_1.length co9, .bool x482001_1, .int .i64 x482002_1, .bool x482003_1, .bool x482004_1] 48 (0, 0)) (by (with_reducible repeat (first | refine blk_drewN ?_ _ | refine blk_drew ?_ | refine blk_alloc ?_ _)); exact BK481.out)) : gb493 ≠ gb481))
                  clear HO_3
                  clear HO_482000
                  clear HO485
                  clear HO492
                  clear BK481
                  clear HB
                  have HO_3 := n0_
                  have HO_482000 := n1_
                  have HO485 := n2_
                  have HO492 := n3_
                  have BK481 := n4_
                  have HB := n5_
                  have BK493 := n6_
                  have GW493 := n7_
                  have GE493 := n8_
                  have NB481_493 := n9_
                  have NB493_481 := n10_
                  clear n0_ n1_ n2_ n3_ n4_ n5_ n6_ n7_ n8_ n9_ n10_
                  clear hb hbox hg
                  refine hK.out _ _ ⟨(blk_cell BK481.out 0).trans rfl, (blk_cell BK481.out 1).trans rfl, (blk_cell BK481.out 2).trans rfl, (blk_cell BK481.out 3).trans rfl, (blk_cell BK481.out 4).trans rfl, ((HB.out.cell (World.block_lt_of_cell? w _ hw482_0)).trans hw482_0)⟩ (fun hHeld => ?_)
                  clear hK K
                  refine norm_ (a' := ?_) ?_ ?_
                  rotate_left
                  · show Act.put _ (some 6) _ = _
                    simp only [Act.put, List.setIfInBounds_toArray, List.set_cons_zero, List.set_cons_succ, i64_w, i32_w]
                    rfl
                  exact norm_ (by simp only [putAll, Act.put, List.setIfInBounds_toArray, List.set_cons_zero, List.set_cons_succ]) (hCont (v484, v491, gb493) _ ⟨hHeld, (by (with_reducible repeat (first | apply Kd.V_alloc | apply Kd.V_drewN | apply Kd.V_drew)); exact Kd.V_mono HO485.out (fun _ hk => ⟨hk.1.1, ⟨hk.1.2.1, ⟨hk.1.2.2, hk.2⟩⟩⟩)), (by (with_reducible repeat (first | apply Kd.V_alloc | apply Kd.V_drewN | apply Kd.V_drew)); exact Kd.V_mono HO492.out (fun _ hk => ⟨hk.1.1, ⟨hk.1.2.1, ⟨hk.1.2.2, hk.2⟩⟩⟩)), (by (with_reducible repeat (first | apply Kd.N_alloc | apply Kd.N_drewN | apply Kd.N_drew)); exact Kd.N_mono HO_3.out (fun _ hk => ⟨hk.1.1, ⟨hk.1.2, hk.2⟩⟩)), (by (with_reducible repeat (first | apply Kd.V_alloc | apply Kd.V_drewN | apply Kd.V_drew)); exact Kd.V_mono HO_482000.out (fun _ hk => ⟨hk.1.1, ⟨hk.1.2.1, ⟨hk.1.2.2, hk.2⟩⟩⟩)), (by (with_reducible repeat (first | refine blk_drewN ?_ _ | refine blk_drew ?_ | refine blk_alloc ?_ _)); exact BK481.out), (by (with_reducible repeat (first | refine blk_drewN ?_ _ | refine blk_drew ?_ | refine blk_alloc ?_ _)); exact BK493.out), GW493.out, GE493.out, NB481_493.out, NB493_481.out, (by repeat (first | (with_reducible first | exact HB.out | apply below_alloc | apply pw_below_drewN | apply below_drew1 | refine below_set ?_ GE481.out | refine below_set ?_ GE493.out) | exact HB.out))⟩)
                · skip
                  refine box_step ?hg (N := 6) ?hd (cs := #[.slice none 0 0, .bool false, .int .i64 0, .bool false, .bool false]) (t := 48) ?hr ?_; (case hd => rfl); (case hg => rfl); (case hr => first | (go_simp; done) | (go_simp; rfl))
                  intro gb493 hg w11 hbox hb
                  have n0_ := Aside0.mk (Kd.N_below (Kd.N_elderB (by (with_reducible repeat (first | apply Kd.N_alloc | apply Kd.N_drewN | apply Kd.N_drew)); exact HO_3.out) gb493 (Nat.le_of_eq hg.symm)) hb)
                  have n1_ := Aside0.mk (Kd.V_below (Kd.V_elderB (by (with_reducible repeat (first | apply Kd.V_alloc | apply Kd.V_drewN | apply Kd.V_drew)); exact HO_482000.out) gb493 (Nat.le_of_eq hg.symm)) hb)
                  have n2_ := Aside0.mk (blk_below (g := gb481) (o := .cells #[.slice Ao9 x482000_1.length co9, .bool x482001_1, .int .i64 x482002_1, .bool x482003_1, .bool x482004_1] 48 (0, 0)) (by (with_reducible repeat (first | refine blk_drewN ?_ _ | refine blk_drew ?_ | refine blk_alloc ?_ _)); exact BK481.out) hb)
                  have n3_ := Aside0.mk (below_step (by repeat (first | (with_reducible first | exact HB.out | apply below_alloc | apply pw_below_drewN | apply below_drew1 | refine below_set ?_ GE481.out) | exact HB.out)) hb)
                  have n4_ := Aside0.mk (hbox)
                  have n5_ := Aside0.mk ((by rw [hg]; exact (below_size (by repeat (first | (with_reducible first | exact HB.out | apply below_alloc | apply pw_below_drewN | apply below_drew1 | refine below_set ?_ GE481.out) | exact HB.out))) : w.heap.size ≤ gb493))
                  have n6_ := Aside0.mk ((by rw [hg]; exact (below_size (by repeat (first | (with_reducible first | exact HB.out | apply below_alloc | apply pw_below_drewN | apply below_drew1 | refine below_set ?_ GE481.out) | exact HB.out))) : w.heap.size ≤ gb493))
                  have n7_ := Aside0.mk ((by rw [hg]; exact Nat.ne_of_lt (blk_lt (g := gb481) (o := .cells #[.slice Ao9 x482000_1.length co9, .bool x482001_1, .int .i64 x482002_1, .bool x482003_1, .bool x482004_1] 48 (0, 0)) (by (with_reducible repeat (first | refine blk_drewN ?_ _ | refine blk_drew ?_ | refine blk_alloc ?_ _)); exact BK481.out)) : gb481 ≠ gb493))
                  have n8_ := Aside0.mk ((by rw [hg]; exact Nat.ne_of_gt (blk_lt (g := gb481) (o := .cells #[.slice Ao9 x482000_1.length co9, .bool x482001_1, .int .i64 x482002_1, .bool x482003_1, .bool x482004_1] 48 (0, 0)) (by (with_reducible repeat (first | refine blk_drewN ?_ _ | refine blk_drew ?_ | refine blk_alloc ?_ _)); exact BK481.out)) : gb493 ≠ gb481))
                  clear HO_3
                  clear HO_482000
                  clear BK481
                  clear HB
                  have HO_3 := n0_
                  have HO_482000 := n1_
                  have BK481 := n2_
                  have HB := n3_
                  have BK493 := n4_
                  have GW493 := n5_
                  have GE493 := n6_
                  have NB481_493 := n7_
                  have NB493_481 := n8_
                  clear n0_ n1_ n2_ n3_ n4_ n5_ n6_ n7_ n8_
                  clear hb hbox hg
                  refine hK.out _ _ ⟨(blk_cell BK481.out 0).trans rfl, (blk_cell BK481.out 1).trans rfl, (blk_cell BK481.out 2).trans rfl, (blk_cell BK481.out 3).trans rfl, (blk_cell BK481.out 4).trans rfl, ((HB.out.cell (World.block_lt_of_cell? w _ hw482_0)).trans hw482_0)⟩ (fun hHeld => ?_)
                  clear hK K
                  refine norm_ (a' := ?_) ?_ ?_
                  rotate_left
                  · show Act.put _ (some 6) _ = _
                    simp only [Act.put, List.setIfInBounds_toArray, List.set_cons_zero, List.set_cons_succ, i64_w, i32_w]
                    rfl
                  refine one_ (i := 5) (N := some 22) #[true, true, true, true, true, true, false, false, false, true, false, false] rfl rfl (one_of HT_.out (by kernel_rfl)) (by decide) (fun K hK => ?_)
                  refine goes_ Try.func33 (by kernel_rfl) rfl #[.agg #[.slice Ao9 x482000_1.length co9, .bool x482001_1, .int .i64 x482002_1, .bool x482003_1, .bool x482004_1], .int .i64 (rd l0 x5_1)] (by rfl) rfl rfl (by (try simp only [List.map_toArray, List.map_cons, List.map_nil]); first | done | rfl | (simp only [List.length_drop, List.length_take]; rfl)) ?_
                  with_reducible refine (pentroughref12_Feed.calls (fun k_ => (((w.heap.size ≤ k_) ∧ (some k_ ≠ (u3 : Value).ownBlock ∧ k_ ≠ gb481)) ∧ k_ ≠ gb493)) _ _ x482000_1 x482001_1 x482002_1 x482003_1 x482004_1 (rd l0 x5_1) t483 t486 t487 t488 t489 t490 _ ?side1 A6.out).mono ?_
                  (case side1 => exact HO_482000.out)
                  rintro e w12 ⟨v484, v491, rfl, ho0, ho1, hb⟩
                  refine ⟨_, rfl, ?_⟩
                  have n0_ := Aside0.mk (Kd.N_below (by (with_reducible repeat (first | apply Kd.N_alloc | apply Kd.N_drewN | apply Kd.N_drew)); exact HO_3.out) hb)
                  have n1_ := Aside0.mk (Kd.V_below (by (with_reducible repeat (first | apply Kd.V_alloc | apply Kd.V_drewN | apply Kd.V_drew)); exact HO_482000.out) hb)
                  have n2_ := Aside0.mk (Kd.V_lower (Kd.V_mono (ok' := fun k_ => (w.heap.size ≤ k_) ∧ some k_ ≠ (u3 : Value).ownBlock ∧ k_ ≠ gb481 ∧ k_ ≠ gb493) ho0 (fun k_ hk_ => ⟨Or.elim hk_ (fun hs_ => hs_.1.1) (fun hn_ => (Nat.le_trans (below_size (by repeat (first | (with_reducible first | exact HB.out | apply below_alloc | apply pw_below_drewN | apply below_drew1 | refine below_set ?_ GE481.out | refine below_set ?_ GE493.out) | exact HB.out))) hn_)), Or.elim hk_ (fun hs_ => hs_.1.2.1) (fun hn_ => (Kd.fresh' (Kd.N_lt (by (with_reducible repeat (first | apply Kd.N_alloc | apply Kd.N_drewN | apply Kd.N_drew)); exact HO_3.out)) k_ hn_)), Or.elim hk_ (fun hs_ => hs_.1.2.2) (fun hn_ => (Kd.freshB (g := gb481) (o := .cells #[.slice Ao9 x482000_1.length co9, .bool x482001_1, .int .i64 x482002_1, .bool x482003_1, .bool x482004_1] 48 (0, 0)) (by (with_reducible repeat (first | refine blk_drewN ?_ _ | refine blk_drew ?_ | refine blk_alloc ?_ _)); exact BK481.out) k_ hn_)), Or.elim hk_ (fun hs_ => hs_.2) (fun hn_ => (Kd.freshB (g := gb493) (o := .cells #[.slice none 0 0, .bool false, .int .i64 0, .bool false, .bool false] 48 (0, 0)) (by (with_reducible repeat (first | refine blk_drewN ?_ _ | refine blk_drew ?_ | refine blk_alloc ?_ _)); exact BK493.out) k_ hn_))⟩)) (below_size (by repeat (first | (with_reducible first | exact HB.out | apply below_alloc | apply pw_below_drewN | apply below_drew1 | refine below_set ?_ GE481.out | refine below_set ?_ GE493.out) | exact HB.out))))
                  have n3_ := Aside0.mk (Kd.V_lower (Kd.V_mono (ok' := fun k_ => (w.heap.size ≤ k_) ∧ some k_ ≠ (u3 : Value).ownBlock ∧ k_ ≠ gb481 ∧ k_ ≠ gb493) ho1 (fun k_ hk_ => ⟨Or.elim hk_ (fun hs_ => hs_.1.1) (fun hn_ => (Nat.le_trans (below_size (by repeat (first | (with_reducible first | exact HB.out | apply below_alloc | apply pw_below_drewN | apply below_drew1 | refine below_set ?_ GE481.out | refine below_set ?_ GE493.out) | exact HB.out))) hn_)), Or.elim hk_ (fun hs_ => hs_.1.2.1) (fun hn_ => (Kd.fresh' (Kd.N_lt (by (with_reducible repeat (first | apply Kd.N_alloc | apply Kd.N_drewN | apply Kd.N_drew)); exact HO_3.out)) k_ hn_)), Or.elim hk_ (fun hs_ => hs_.1.2.2) (fun hn_ => (Kd.freshB (g := gb481) (o := .cells #[.slice Ao9 x482000_1.length co9, .bool x482001_1, .int .i64 x482002_1, .bool x482003_1, .bool x482004_1] 48 (0, 0)) (by (with_reducible repeat (first | refine blk_drewN ?_ _ | refine blk_drew ?_ | refine blk_alloc ?_ _)); exact BK481.out) k_ hn_)), Or.elim hk_ (fun hs_ => hs_.2) (fun hn_ => (Kd.freshB (g := gb493) (o := .cells #[.slice none 0 0, .bool false, .int .i64 0, .bool false, .bool false] 48 (0, 0)) (by (with_reducible repeat (first | refine blk_drewN ?_ _ | refine blk_drew ?_ | refine blk_alloc ?_ _)); exact BK493.out) k_ hn_))⟩)) (below_size (by repeat (first | (with_reducible first | exact HB.out | apply below_alloc | apply pw_below_drewN | apply below_drew1 | refine below_set ?_ GE481.out | refine below_set ?_ GE493.out) | exact HB.out))))
                  have n4_ := Aside0.mk (blk_below (g := gb481) (o := .cells #[.slice Ao9 x482000_1.length co9, .bool x482001_1, .int .i64 x482002_1, .bool x482003_1, .bool x482004_1] 48 (0, 0)) (by (with_reducible repeat (first | refine blk_drewN ?_ _ | refine blk_drew ?_ | refine blk_alloc ?_ _)); exact BK481.out) hb)
                  have n5_ := Aside0.mk (blk_below (g := gb493) (o := .cells #[.slice none 0 0, .bool false, .int .i64 0, .bool false, .bool false] 48 (0, 0)) (by (with_reducible repeat (first | refine blk_drewN ?_ _ | refine blk_drew ?_ | refine blk_alloc ?_ _)); exact BK493.out) hb)
                  have n6_ := Aside0.mk (below_step (by repeat (first | (with_reducible first | exact HB.out | apply below_alloc | apply pw_below_drewN | apply below_drew1 | refine below_set ?_ GE481.out | refine below_set ?_ GE493.out) | exact HB.out)) hb)
                  clear HO_3
                  clear HO_482000
                  clear BK481
                  clear BK493
                  clear HB
                  have HO_3 := n0_
                  have HO_482000 := n1_
                  have HO485 := n2_
                  have HO492 := n3_
                  have BK481 := n4_
                  have BK493 := n5_
                  have HB := n6_
                  clear n0_ n1_ n2_ n3_ n4_ n5_ n6_
                  (try clear hb)
                  (try clear hb2)
                  (try clear hk)
                  (try clear hi)
                  (try clear ho0)
                  (try clear ho1)
                  refine hK.out _ _ ⟨(blk_cell BK481.out 0).trans rfl, (blk_cell BK481.out 1).trans rfl, (blk_cell BK481.out 2).trans rfl, (blk_cell BK481.out 3).trans rfl, (blk_cell BK481.out 4).trans rfl, ((HB.out.cell (World.block_lt_of_cell? w _ hw482_0)).trans hw482_0)⟩ (fun hHeld => ?_)
                  clear hK K
                  refine norm_ (a' := ?_) ?_ ?_
                  rotate_left
                  · show Act.put _ (some 22) _ = _
                    simp only [Act.put, List.setIfInBounds_toArray, List.set_cons_zero, List.set_cons_succ, i64_w, i32_w]
                    rfl
                  refine pure_ (i := 6) (N := some 16) (v := ?_) (a' := ?_) #[true, true, true, true, true, true, true, false, false, true, false, false] rfl rfl (any_of HT_.out (by kernel_rfl)) (fun _ _ _ h => h) (Or.inl ⟨by rfl, ?_⟩) ?_ ?_
                  rotate_left
                  · intro w'
                    go_simp
                    with_reducible rfl
                  rotate_left
                  · simp only [Act.put, List.setIfInBounds_toArray, List.set_cons_zero, List.set_cons_succ, i64_w, i32_w]
                    rfl
                  refine pure_ (i := 7) (N := some 23) (v := ?_) (a' := ?_) #[true, true, true, true, true, true, true, true, false, true, false, false] rfl rfl (any_of HT_.out (by kernel_rfl)) (fun _ _ _ h => h) (Or.inl ⟨by rfl, ?_⟩) ?_ ?_
                  rotate_left
                  · intro w'
                    go_simp
                    with_reducible rfl
                  rotate_left
                  · simp only [Act.put, List.setIfInBounds_toArray, List.set_cons_zero, List.set_cons_succ, i64_w, i32_w]
                    rfl
                  refine pure_ (i := 8) (N := some 24) (v := ?_) (a' := ?_) #[true, true, true, true, true, true, true, true, true, true, false, false] rfl rfl (any_of HT_.out (by kernel_rfl)) (fun _ _ _ h => h) (Or.inl ⟨by rfl, ?_⟩) ?_ ?_
                  rotate_left
                  · intro w'
                    go_simp
                    with_reducible rfl
                  rotate_left
                  · simp only [Act.put, List.setIfInBounds_toArray, List.set_cons_zero, List.set_cons_succ, i64_w, i32_w]
                    rfl
                  exact norm_ (by simp only [putAll, Act.put, List.setIfInBounds_toArray, List.set_cons_zero, List.set_cons_succ]) (hCont (v484, v491, gb493) _ ⟨hHeld, (by (with_reducible repeat (first | apply Kd.V_alloc | apply Kd.V_drewN | apply Kd.V_drew)); exact HO485.out), (by (with_reducible repeat (first | apply Kd.V_alloc | apply Kd.V_drewN | apply Kd.V_drew)); exact HO492.out), (by (with_reducible repeat (first | apply Kd.N_alloc | apply Kd.N_drewN | apply Kd.N_drew)); exact Kd.N_mono HO_3.out (fun _ hk => ⟨hk.1.1, ⟨hk.1.2, hk.2⟩⟩)), (by (with_reducible repeat (first | apply Kd.V_alloc | apply Kd.V_drewN | apply Kd.V_drew)); exact Kd.V_mono HO_482000.out (fun _ hk => ⟨hk.1.1, ⟨hk.1.2.1, ⟨hk.1.2.2, hk.2⟩⟩⟩)), (by (with_reducible repeat (first | refine blk_drewN ?_ _ | refine blk_drew ?_ | refine blk_alloc ?_ _)); exact BK481.out), (by (with_reducible repeat (first | refine blk_drewN ?_ _ | refine blk_drew ?_ | refine blk_alloc ?_ _)); exact BK493.out), GW493.out, GE493.out, NB481_493.out, NB493_481.out, (by repeat (first | (with_reducible first | exact HB.out | apply below_alloc | apply pw_below_drewN | apply below_drew1 | refine below_set ?_ GE481.out | refine below_set ?_ GE493.out) | exact HB.out))⟩)
              rintro ⟨v484, v491, gb493⟩ w13 ⟨hS_, h0_, h1_, h2_, h3_, h4_, h5_, h6_, h7_, h8_, h9_, h10_⟩
              have n0_ : Aside0 (Kd.V (Kd.int .i64) 3 w13 w.heap.size (fun k_ => (w.heap.size ≤ k_) ∧ some k_ ≠ (u3 : Value).ownBlock ∧ k_ ≠ gb481 ∧ k_ ≠ gb493) v484 t483) := ⟨h0_⟩
              have n1_ : Aside0 (Kd.V (Kd.int .i64) 3 w13 w.heap.size (fun k_ => (w.heap.size ≤ k_) ∧ some k_ ≠ (u3 : Value).ownBlock ∧ k_ ≠ gb481 ∧ k_ ≠ gb493) v491 t490) := ⟨h1_⟩
              have n2_ : Aside0 (Kd.N (Kd.slice 3 (Kd.int .i64)) 22 w13 w.heap.size (fun k_ => (w.heap.size ≤ k_) ∧ k_ ≠ gb481 ∧ k_ ≠ gb493) u3 x3_1) := ⟨h2_⟩
              have n3_ : Aside0 (Kd.V (Kd.int .i64) 3 w13 w.heap.size (fun k_ => (w.heap.size ≤ k_) ∧ some k_ ≠ (u3 : Value).ownBlock ∧ k_ ≠ gb481 ∧ k_ ≠ gb493) (.slice Ao9 x482000_1.length co9) x482000_1) := ⟨h3_⟩
              have n4_ : Aside0 (w13.heap[gb481]? = some (.cells #[.slice Ao9 x482000_1.length co9, .bool x482001_1, .int .i64 x482002_1, .bool x482003_1, .bool x482004_1] 48 (0, 0))) := ⟨h4_⟩
              have n5_ : Aside0 (w13.heap[gb493]? = some (.cells #[.slice none 0 0, .bool false, .int .i64 0, .bool false, .bool false] 48 (0, 0))) := ⟨h5_⟩
              have n6_ : Aside0 (w.heap.size ≤ gb493) := ⟨h6_⟩
              have n7_ : Aside0 (w.heap.size ≤ gb493) := ⟨h7_⟩
              have n8_ : Aside0 (gb481 ≠ gb493) := ⟨h8_⟩
              have n9_ : Aside0 (gb493 ≠ gb481) := ⟨h9_⟩
              have n10_ : Aside0 (Below w.heap.size w w13) := ⟨h10_⟩
              clear HO_3
              clear HO_482000
              clear BK481
              clear HB
              clear h0_ h1_ h2_ h3_ h4_ h5_ h6_ h7_ h8_ h9_ h10_
              have HO485 := n0_
              have HO492 := n1_
              have HO_3 := n2_
              have HO_482000 := n3_
              have BK481 := n4_
              have BK493 := n5_
              have GW493 := n6_
              have GE493 := n7_
              have NB481_493 := n8_
              have NB493_481 := n9_
              have HB := n10_
              clear n0_ n1_ n2_ n3_ n4_ n5_ n6_ n7_ n8_ n9_ n10_
              have hHeld : w13.cell? ⟨gb481, 0, none⟩ = some (.slice Ao9 x482000_1.length co9) ∧ w13.cell? ⟨gb481, 1, none⟩ = some (.bool x482001_1) ∧ w13.cell? ⟨gb481, 2, none⟩ = some (.int .i64 x482002_1) ∧ w13.cell? ⟨gb481, 3, none⟩ = some (.bool x482003_1) ∧ w13.cell? ⟨gb481, 4, none⟩ = some (.bool x482004_1) ∧ w13.cell? (ad482.add (x5_1).toNat) = some (.int .i64 (rd l0 x5_1)) := hS_
              obtain ⟨Ao14, co14, eo14⟩ := Kd.V_slice HO485.out
              (first | subst eo14 | (injection eo14 with f1_ f2_ f3_; have f4_ := f1_.symm; have f5_ := f3_.symm; clear f1_ f2_ f3_; subst f4_; subst f5_))
              refine norm_ (a' := ?_) ?_ ?_
              rotate_left
              · simp only [putAll, Act.put, List.setIfInBounds_toArray, List.set_cons_zero, List.set_cons_succ]
                rfl
              refine one_ (i := 10) (N := none) #[true, true, true, true, true, true, true, true, true, true, true, false] rfl rfl (one_of HT_.out (by kernel_rfl)) (by decide) (fun K hK => ?_)
              have hs15 : w13.cell? ⟨gb493, 0, none⟩ = some (.slice none 0 0) := (blk_cell BK493.out 0).trans rfl
              have hfs15 := blk_frozen BK493.out 0
              have hns15_0 := NB481_493.out
              have hms15_0 := NB493_481.out
              have hs16 : w13.cell? ⟨gb493, 1, none⟩ = some (.bool false) := (blk_cell BK493.out 1).trans rfl
              have hfs16 := blk_frozen BK493.out 1
              have hns16_0 := NB481_493.out
              have hms16_0 := NB493_481.out
              have hs17 : w13.cell? ⟨gb493, 2, none⟩ = some (.int .i64 0) := (blk_cell BK493.out 2).trans rfl
              have hfs17 := blk_frozen BK493.out 2
              have hns17_0 := NB481_493.out
              have hms17_0 := NB493_481.out
              have hs18 : w13.cell? ⟨gb493, 3, none⟩ = some (.bool false) := (blk_cell BK493.out 3).trans rfl
              have hfs18 := blk_frozen BK493.out 3
              have hns18_0 := NB481_493.out
              have hms18_0 := NB493_481.out
              have hs19 : w13.cell? ⟨gb493, 4, none⟩ = some (.bool false) := (blk_cell BK493.out 4).trans rfl
              have hfs19 := blk_frozen BK493.out 4
              have hns19_0 := NB481_493.out
              have hms19_0 := NB493_481.out
              refine skip_ (w1 := ?_) (by rfl) rfl ?_ ?_
              rotate_left
              · go_simp
                rfl
              refine hK.out _ _ ⟨((cell_far (p := ⟨gb493, _, none⟩) NB481_493.out _).trans (((cell_far (p := ⟨gb493, _, none⟩) NB481_493.out _).trans (((cell_far (p := ⟨gb493, _, none⟩) NB481_493.out _).trans (((cell_far (p := ⟨gb493, _, none⟩) NB481_493.out _).trans (((cell_far (p := ⟨gb493, _, none⟩) NB481_493.out _).trans (hHeld.1)))))))))), ((cell_far (p := ⟨gb493, _, none⟩) NB481_493.out _).trans (((cell_far (p := ⟨gb493, _, none⟩) NB481_493.out _).trans (((cell_far (p := ⟨gb493, _, none⟩) NB481_493.out _).trans (((cell_far (p := ⟨gb493, _, none⟩) NB481_493.out _).trans (((cell_far (p := ⟨gb493, _, none⟩) NB481_493.out _).trans (hHeld.2.1)))))))))), ((cell_far (p := ⟨gb493, _, none⟩) NB481_493.out _).trans (((cell_far (p := ⟨gb493, _, none⟩) NB481_493.out _).trans (((cell_far (p := ⟨gb493, _, none⟩) NB481_493.out _).trans (((cell_far (p := ⟨gb493, _, none⟩) NB481_493.out _).trans (((cell_far (p := ⟨gb493, _, none⟩) NB481_493.out _).trans (hHeld.2.2.1)))))))))), ((cell_far (p := ⟨gb493, _, none⟩) NB481_493.out _).trans (((cell_far (p := ⟨gb493, _, none⟩) NB481_493.out _).trans (((cell_far (p := ⟨gb493, _, none⟩) NB481_493.out _).trans (((cell_far (p := ⟨gb493, _, none⟩) NB481_493.out _).trans (((cell_far (p := ⟨gb493, _, none⟩) NB481_493.out _).trans (hHeld.2.2.2.1)))))))))), ((cell_far (p := ⟨gb493, _, none⟩) NB481_493.out _).trans (((cell_far (p := ⟨gb493, _, none⟩) NB481_493.out _).trans (((cell_far (p := ⟨gb493, _, none⟩) NB481_493.out _).trans (((cell_far (p := ⟨gb493, _, none⟩) NB481_493.out _).trans (((cell_far (p := ⟨gb493, _, none⟩) NB481_493.out _).trans (hHeld.2.2.2.2.1)))))))))), ((cell_far (p := ⟨gb493, _, none⟩) (by first | exact Nat.ne_of_lt (Nat.lt_of_lt_of_le (by have := World.block_lt_of_cell? _ _ hw482_0; first | rwa [add_block] at this | exact this) GW493.out) | (rw [add_block]; exact Nat.ne_of_lt (Nat.lt_of_lt_of_le (by have := World.block_lt_of_cell? _ _ hw482_0; first | rwa [add_block] at this | exact this) GW493.out)) | (show (Addr.add _ _).block ≠ _; rw [add_block]; exact Nat.ne_of_lt (Nat.lt_of_lt_of_le (by have := World.block_lt_of_cell? _ _ hw482_0; first | rwa [add_block] at this | exact this) GW493.out)) | (dsimp only; exact Nat.ne_of_lt (Nat.lt_of_lt_of_le (by have := World.block_lt_of_cell? _ _ hw482_0; first | rwa [add_block] at this | exact this) GW493.out))) _).trans (((cell_far (p := ⟨gb493, _, none⟩) (by first | exact Nat.ne_of_lt (Nat.lt_of_lt_of_le (by have := World.block_lt_of_cell? _ _ hw482_0; first | rwa [add_block] at this | exact this) GW493.out) | (rw [add_block]; exact Nat.ne_of_lt (Nat.lt_of_lt_of_le (by have := World.block_lt_of_cell? _ _ hw482_0; first | rwa [add_block] at this | exact this) GW493.out)) | (show (Addr.add _ _).block ≠ _; rw [add_block]; exact Nat.ne_of_lt (Nat.lt_of_lt_of_le (by have := World.block_lt_of_cell? _ _ hw482_0; first | rwa [add_block] at this | exact this) GW493.out)) | (dsimp only; exact Nat.ne_of_lt (Nat.lt_of_lt_of_le (by have := World.block_lt_of_cell? _ _ hw482_0; first | rwa [add_block] at this | exact this) GW493.out))) _).trans (((cell_far (p := ⟨gb493, _, none⟩) (by first | exact Nat.ne_of_lt (Nat.lt_of_lt_of_le (by have := World.block_lt_of_cell? _ _ hw482_0; first | rwa [add_block] at this | exact this) GW493.out) | (rw [add_block]; exact Nat.ne_of_lt (Nat.lt_of_lt_of_le (by have := World.block_lt_of_cell? _ _ hw482_0; first | rwa [add_block] at this | exact this) GW493.out)) | (show (Addr.add _ _).block ≠ _; rw [add_block]; exact Nat.ne_of_lt (Nat.lt_of_lt_of_le (by have := World.block_lt_of_cell? _ _ hw482_0; first | rwa [add_block] at this | exact this) GW493.out)) | (dsimp only; exact Nat.ne_of_lt (Nat.lt_of_lt_of_le (by have := World.block_lt_of_cell? _ _ hw482_0; first | rwa [add_block] at this | exact this) GW493.out))) _).trans (((cell_far (p := ⟨gb493, _, none⟩) (by first | exact Nat.ne_of_lt (Nat.lt_of_lt_of_le (by have := World.block_lt_of_cell? _ _ hw482_0; first | rwa [add_block] at this | exact this) GW493.out) | (rw [add_block]; exact Nat.ne_of_lt (Nat.lt_of_lt_of_le (by have := World.block_lt_of_cell? _ _ hw482_0; first | rwa [add_block] at this | exact this) GW493.out)) | (show (Addr.add _ _).block ≠ _; rw [add_block]; exact Nat.ne_of_lt (Nat.lt_of_lt_of_le (by have := World.block_lt_of_cell? _ _ hw482_0; first | rwa [add_block] at this | exact this) GW493.out)) | (dsimp only; exact Nat.ne_of_lt (Nat.lt_of_lt_of_le (by have := World.block_lt_of_cell? _ _ hw482_0; first | rwa [add_block] at this | exact this) GW493.out))) _).trans (((cell_far (p := ⟨gb493, _, none⟩) (by first | exact Nat.ne_of_lt (Nat.lt_of_lt_of_le (by have := World.block_lt_of_cell? _ _ hw482_0; first | rwa [add_block] at this | exact this) GW493.out) | (rw [add_block]; exact Nat.ne_of_lt (Nat.lt_of_lt_of_le (by have := World.block_lt_of_cell? _ _ hw482_0; first | rwa [add_block] at this | exact this) GW493.out)) | (show (Addr.add _ _).block ≠ _; rw [add_block]; exact Nat.ne_of_lt (Nat.lt_of_lt_of_le (by have := World.block_lt_of_cell? _ _ hw482_0; first | rwa [add_block] at this | exact this) GW493.out)) | (dsimp only; exact Nat.ne_of_lt (Nat.lt_of_lt_of_le (by have := World.block_lt_of_cell? _ _ hw482_0; first | rwa [add_block] at this | exact this) GW493.out))) _).trans (hHeld.2.2.2.2.2))))))))))⟩ (fun hHeld => ?_)
              clear hK K
              refine pure_ (i := 11) (N := some 7) (v := ?_) (a' := ?_) #[true, true, true, true, true, true, true, true, true, true, true, true] rfl rfl (any_of HT_.out (by kernel_rfl)) (fun _ _ _ h => h) (Or.inl ⟨by rfl, ?_⟩) ?_ ?_
              rotate_left
              · intro w'
                go_simp
                with_reducible rfl
              rotate_left
              · simp only [Act.put, List.setIfInBounds_toArray, List.set_cons_zero, List.set_cons_succ, i64_w, i32_w]
                rfl
              refine done_ (done_of HT_.out (by kernel_rfl)) ?_
              have n0_ : Aside0 (Kd.N (Kd.slice 3 (Kd.int .i64)) 22 (((((w13.setCell ⟨gb493, 0, none⟩ (.slice Ao14 t483.length co14)).setCell ⟨gb493, 1, none⟩ (.bool t486)).setCell ⟨gb493, 2, none⟩ (.int .i64 t487)).setCell ⟨gb493, 3, none⟩ (.bool t488)).setCell ⟨gb493, 4, none⟩ (.bool t489)) w.heap.size (fun k_ => (w.heap.size ≤ k_) ∧ k_ ≠ gb481 ∧ k_ ≠ gb493) u3 x3_1) := ⟨by (with_reducible repeat (first | apply Kd.N_alloc | apply Kd.N_drewN | apply Kd.N_drew)); exact Kd.N_mono (Kd.N_far (p := ⟨gb493, 4, none⟩) (Kd.N_far (p := ⟨gb493, 3, none⟩) (Kd.N_far (p := ⟨gb493, 2, none⟩) (Kd.N_far (p := ⟨gb493, 1, none⟩) (Kd.N_far (p := ⟨gb493, 0, none⟩) (Kd.N_mono HO_3.out (fun k_ hk => (⟨hk, hk.2.2⟩ : _ ∧ k_ ≠ gb493))) (fun _ hk => hk.2) (.slice Ao14 t483.length co14)) (fun _ hk => hk.2) (.bool t486)) (fun _ hk => hk.2) (.int .i64 t487)) (fun _ hk => hk.2) (.bool t488)) (fun _ hk => hk.2) (.bool t489)) (fun _ hk => ⟨hk.1.1, ⟨hk.1.2.1, hk.1.2.2⟩⟩)⟩
              have n1_ : Aside0 (Kd.V (Kd.int .i64) 3 (((((w13.setCell ⟨gb493, 0, none⟩ (.slice Ao14 t483.length co14)).setCell ⟨gb493, 1, none⟩ (.bool t486)).setCell ⟨gb493, 2, none⟩ (.int .i64 t487)).setCell ⟨gb493, 3, none⟩ (.bool t488)).setCell ⟨gb493, 4, none⟩ (.bool t489)) w.heap.size (fun k_ => (w.heap.size ≤ k_) ∧ some k_ ≠ (u3 : Value).ownBlock ∧ k_ ≠ gb481 ∧ k_ ≠ gb493) (.slice Ao9 x482000_1.length co9) x482000_1) := ⟨by (with_reducible repeat (first | apply Kd.V_alloc | apply Kd.V_drewN | apply Kd.V_drew)); exact Kd.V_mono (Kd.V_far (p := ⟨gb493, 4, none⟩) (Kd.V_far (p := ⟨gb493, 3, none⟩) (Kd.V_far (p := ⟨gb493, 2, none⟩) (Kd.V_far (p := ⟨gb493, 1, none⟩) (Kd.V_far (p := ⟨gb493, 0, none⟩) (Kd.V_mono HO_482000.out (fun k_ hk => (⟨hk, hk.2.2.2⟩ : _ ∧ k_ ≠ gb493))) (fun _ hk => hk.2) (.slice Ao14 t483.length co14)) (fun _ hk => hk.2) (.bool t486)) (fun _ hk => hk.2) (.int .i64 t487)) (fun _ hk => hk.2) (.bool t488)) (fun _ hk => hk.2) (.bool t489)) (fun _ hk => ⟨hk.1.1, ⟨hk.1.2.1, ⟨hk.1.2.2.1, hk.1.2.2.2⟩⟩⟩)⟩
              have n2_ : Aside0 (Kd.V (Kd.int .i64) 3 (((((w13.setCell ⟨gb493, 0, none⟩ (.slice Ao14 t483.length co14)).setCell ⟨gb493, 1, none⟩ (.bool t486)).setCell ⟨gb493, 2, none⟩ (.int .i64 t487)).setCell ⟨gb493, 3, none⟩ (.bool t488)).setCell ⟨gb493, 4, none⟩ (.bool t489)) w.heap.size (fun k_ => (w.heap.size ≤ k_) ∧ some k_ ≠ (u3 : Value).ownBlock ∧ k_ ≠ gb481 ∧ k_ ≠ gb493) (.slice Ao14 t483.length co14) t483) := ⟨by (with_reducible repeat (first | apply Kd.V_alloc | apply Kd.V_drewN | apply Kd.V_drew)); exact Kd.V_mono (Kd.V_far (p := ⟨gb493, 4, none⟩) (Kd.V_far (p := ⟨gb493, 3, none⟩) (Kd.V_far (p := ⟨gb493, 2, none⟩) (Kd.V_far (p := ⟨gb493, 1, none⟩) (Kd.V_far (p := ⟨gb493, 0, none⟩) (Kd.V_mono HO485.out (fun k_ hk => (⟨hk, hk.2.2.2⟩ : _ ∧ k_ ≠ gb493))) (fun _ hk => hk.2) (.slice Ao14 t483.length co14)) (fun _ hk => hk.2) (.bool t486)) (fun _ hk => hk.2) (.int .i64 t487)) (fun _ hk => hk.2) (.bool t488)) (fun _ hk => hk.2) (.bool t489)) (fun _ hk => ⟨hk.1.1, ⟨hk.1.2.1, ⟨hk.1.2.2.1, hk.1.2.2.2⟩⟩⟩)⟩
              have n3_ : Aside0 (Kd.V (Kd.int .i64) 3 (((((w13.setCell ⟨gb493, 0, none⟩ (.slice Ao14 t483.length co14)).setCell ⟨gb493, 1, none⟩ (.bool t486)).setCell ⟨gb493, 2, none⟩ (.int .i64 t487)).setCell ⟨gb493, 3, none⟩ (.bool t488)).setCell ⟨gb493, 4, none⟩ (.bool t489)) w.heap.size (fun k_ => (w.heap.size ≤ k_) ∧ some k_ ≠ (u3 : Value).ownBlock ∧ k_ ≠ gb481 ∧ k_ ≠ gb493) v491 t490) := ⟨by (with_reducible repeat (first | apply Kd.V_alloc | apply Kd.V_drewN | apply Kd.V_drew)); exact Kd.V_mono (Kd.V_far (p := ⟨gb493, 4, none⟩) (Kd.V_far (p := ⟨gb493, 3, none⟩) (Kd.V_far (p := ⟨gb493, 2, none⟩) (Kd.V_far (p := ⟨gb493, 1, none⟩) (Kd.V_far (p := ⟨gb493, 0, none⟩) (Kd.V_mono HO492.out (fun k_ hk => (⟨hk, hk.2.2.2⟩ : _ ∧ k_ ≠ gb493))) (fun _ hk => hk.2) (.slice Ao14 t483.length co14)) (fun _ hk => hk.2) (.bool t486)) (fun _ hk => hk.2) (.int .i64 t487)) (fun _ hk => hk.2) (.bool t488)) (fun _ hk => hk.2) (.bool t489)) (fun _ hk => ⟨hk.1.1, ⟨hk.1.2.1, ⟨hk.1.2.2.1, hk.1.2.2.2⟩⟩⟩)⟩
              have n4_ : Aside0 ((((((w13.setCell ⟨gb493, 0, none⟩ (.slice Ao14 t483.length co14)).setCell ⟨gb493, 1, none⟩ (.bool t486)).setCell ⟨gb493, 2, none⟩ (.int .i64 t487)).setCell ⟨gb493, 3, none⟩ (.bool t488)).setCell ⟨gb493, 4, none⟩ (.bool t489)).heap[gb481]? = some (.cells #[.slice Ao9 x482000_1.length co9, .bool x482001_1, .int .i64 x482002_1, .bool x482003_1, .bool x482004_1] 48 (0, 0))) := ⟨by (with_reducible repeat (first | refine blk_drewN ?_ _ | refine blk_drew ?_ | refine blk_alloc ?_ _)); refine blk_far ?_ NB481_493.out _; (with_reducible repeat (first | refine blk_drewN ?_ _ | refine blk_drew ?_ | refine blk_alloc ?_ _)); refine blk_far ?_ NB481_493.out _; (with_reducible repeat (first | refine blk_drewN ?_ _ | refine blk_drew ?_ | refine blk_alloc ?_ _)); refine blk_far ?_ NB481_493.out _; (with_reducible repeat (first | refine blk_drewN ?_ _ | refine blk_drew ?_ | refine blk_alloc ?_ _)); refine blk_far ?_ NB481_493.out _; (with_reducible repeat (first | refine blk_drewN ?_ _ | refine blk_drew ?_ | refine blk_alloc ?_ _)); refine blk_far ?_ NB481_493.out _; (with_reducible repeat (first | refine blk_drewN ?_ _ | refine blk_drew ?_ | refine blk_alloc ?_ _)); exact BK481.out⟩
              have n5_ : Aside0 ((((((w13.setCell ⟨gb493, 0, none⟩ (.slice Ao14 t483.length co14)).setCell ⟨gb493, 1, none⟩ (.bool t486)).setCell ⟨gb493, 2, none⟩ (.int .i64 t487)).setCell ⟨gb493, 3, none⟩ (.bool t488)).setCell ⟨gb493, 4, none⟩ (.bool t489)).heap[gb493]? = some (.cells #[.slice Ao14 t483.length co14, .bool t486, .int .i64 t487, .bool t488, .bool t489] 48 (0, 0))) := ⟨by (with_reducible repeat (first | refine blk_drewN ?_ _ | refine blk_drew ?_ | refine blk_alloc ?_ _)); refine blk_put (cs := #[.slice Ao14 t483.length co14, .bool t486, .int .i64 t487, .bool t488, .bool false]) ?_ 4 _ rfl; (with_reducible repeat (first | refine blk_drewN ?_ _ | refine blk_drew ?_ | refine blk_alloc ?_ _)); refine blk_put (cs := #[.slice Ao14 t483.length co14, .bool t486, .int .i64 t487, .bool false, .bool false]) ?_ 3 _ rfl; (with_reducible repeat (first | refine blk_drewN ?_ _ | refine blk_drew ?_ | refine blk_alloc ?_ _)); refine blk_put (cs := #[.slice Ao14 t483.length co14, .bool t486, .int .i64 0, .bool false, .bool false]) ?_ 2 _ rfl; (with_reducible repeat (first | refine blk_drewN ?_ _ | refine blk_drew ?_ | refine blk_alloc ?_ _)); refine blk_put (cs := #[.slice Ao14 t483.length co14, .bool false, .int .i64 0, .bool false, .bool false]) ?_ 1 _ rfl; (with_reducible repeat (first | refine blk_drewN ?_ _ | refine blk_drew ?_ | refine blk_alloc ?_ _)); refine blk_put (cs := #[.slice none 0 0, .bool false, .int .i64 0, .bool false, .bool false]) ?_ 0 _ rfl; (with_reducible repeat (first | refine blk_drewN ?_ _ | refine blk_drew ?_ | refine blk_alloc ?_ _)); exact BK493.out⟩
              have n6_ : Aside0 (Below w.heap.size w (((((w13.setCell ⟨gb493, 0, none⟩ (.slice Ao14 t483.length co14)).setCell ⟨gb493, 1, none⟩ (.bool t486)).setCell ⟨gb493, 2, none⟩ (.int .i64 t487)).setCell ⟨gb493, 3, none⟩ (.bool t488)).setCell ⟨gb493, 4, none⟩ (.bool t489))) := ⟨by repeat (first | (with_reducible first | exact HB.out | apply below_alloc | apply pw_below_drewN | apply below_drew1 | refine below_set ?_ GE481.out | refine below_set ?_ GE493.out) | exact HB.out)⟩
              (try clear HO_3)
              (try clear HO_482000)
              (try clear HO485)
              (try clear HO492)
              (try clear BK481)
              (try clear BK493)
              (try clear HB)
              generalize (((((w13.setCell ⟨gb493, 0, none⟩ (.slice Ao14 t483.length co14)).setCell ⟨gb493, 1, none⟩ (.bool t486)).setCell ⟨gb493, 2, none⟩ (.int .i64 t487)).setCell ⟨gb493, 3, none⟩ (.bool t488)).setCell ⟨gb493, 4, none⟩ (.bool t489)) = w20 at n0_ n1_ n2_ n3_ n4_ n5_ n6_ ⊢
              have HO_3 := n0_
              have HO_482000 := n1_
              have HO485 := n2_
              have HO492 := n3_
              have BK481 := n4_
              have BK493 := n5_
              have HB := n6_
              clear n0_ n1_ n2_ n3_ n4_ n5_ n6_
              have hnb21 := NB493_481.out
              have hnc21 := NB481_493.out
              have hcz22_0 : w20.cell? ⟨gb493, 0, none⟩ = some (.slice Ao14 t483.length co14) := (blk_cell BK493.out 0).trans rfl
              have hcz22_1 : w20.cell? ⟨gb493, 1, none⟩ = some (.bool t486) := (blk_cell BK493.out 1).trans rfl
              have hcz22_2 : w20.cell? ⟨gb493, 2, none⟩ = some (.int .i64 t487) := (blk_cell BK493.out 2).trans rfl
              have hcz22_3 : w20.cell? ⟨gb493, 3, none⟩ = some (.bool t488) := (blk_cell BK493.out 3).trans rfl
              have hcz22_4 : w20.cell? ⟨gb493, 4, none⟩ = some (.bool t489) := (blk_cell BK493.out 4).trans rfl
              have hfz22_0 := blk_frozen BK493.out 0
              have hfz22_1 := blk_frozen BK493.out 1
              have hfz22_2 := blk_frozen BK493.out 2
              have hfz22_3 := blk_frozen BK493.out 3
              have hfz22_4 := blk_frozen BK493.out 4
              have hcz23_0 : w20.cell? ⟨gb481, 0, none⟩ = some (.slice Ao9 x482000_1.length co9) := (blk_cell BK481.out 0).trans rfl
              have hcz23_1 : w20.cell? ⟨gb481, 1, none⟩ = some (.bool x482001_1) := (blk_cell BK481.out 1).trans rfl
              have hcz23_2 : w20.cell? ⟨gb481, 2, none⟩ = some (.int .i64 x482002_1) := (blk_cell BK481.out 2).trans rfl
              have hcz23_3 : w20.cell? ⟨gb481, 3, none⟩ = some (.bool x482003_1) := (blk_cell BK481.out 3).trans rfl
              have hcz23_4 : w20.cell? ⟨gb481, 4, none⟩ = some (.bool x482004_1) := (blk_cell BK481.out 4).trans rfl
              have hfz23_0 := blk_frozen BK481.out 0
              have hfz23_1 := blk_frozen BK481.out 1
              have hfz23_2 := blk_frozen BK481.out 2
              have hfz23_3 := blk_frozen BK481.out 3
              have hfz23_4 := blk_frozen BK481.out 4
              try go_wp2_with (first | ((with_reducible refine gate_store (t := 48) (p := 4) rfl ?_); refine store_event (t := 48) (p := 4) (v := ?vo_w24) (w1 := (((((w20.setCell ⟨gb481, 0, none⟩ (.slice Ao14 t483.length co14)).setCell ⟨gb481, 1, none⟩ (.bool t486)).setCell ⟨gb481, 2, none⟩ (.int .i64 t487)).setCell ⟨gb481, 3, none⟩ (.bool t488)).setCell ⟨gb481, 4, none⟩ (.bool t489))) ?hg ?ho ?hn ?hr ?_; (case ho => rfl); (case hg => rfl); (case hn => rfl); (case hr => first | (go_simp; done) | (go_simp; rfl)); intro w24 hw; have n0_ : Aside0 (Kd.N (Kd.slice 3 (Kd.int .i64)) 22 w24 w.heap.size (fun k_ => (w.heap.size ≤ k_) ∧ k_ ≠ gb481 ∧ k_ ≠ gb493) u3 x3_1) := ⟨(by rw [hw]; exact (by (with_reducible repeat (first | apply Kd.N_alloc | apply Kd.N_drewN | apply Kd.N_drew)); exact Kd.N_mono (Kd.N_far (p := ⟨gb481, 4, none⟩) (Kd.N_far (p := ⟨gb481, 3, none⟩) (Kd.N_far (p := ⟨gb481, 2, none⟩) (Kd.N_far (p := ⟨gb481, 1, none⟩) (Kd.N_far (p := ⟨gb481, 0, none⟩) (Kd.N_mono HO_3.out (fun k_ hk => (⟨hk, hk.2.1⟩ : _ ∧ k_ ≠ gb481))) (fun _ hk => hk.2) (.slice Ao14 t483.length co14)) (fun _ hk => hk.2) (.bool t486)) (fun _ hk => hk.2) (.int .i64 t487)) (fun _ hk => hk.2) (.bool t488)) (fun _ hk => hk.2) (.bool t489)) (fun _ hk => ⟨hk.1.1, ⟨hk.1.2.1, hk.1.2.2⟩⟩)))⟩; have n1_ : Aside0 (Kd.V (Kd.int .i64) 3 w24 w.heap.size (fun k_ => (w.heap.size ≤ k_) ∧ some k_ ≠ (u3 : Value).ownBlock ∧ k_ ≠ gb481 ∧ k_ ≠ gb493) (.slice Ao9 x482000_1.length co9) x482000_1) := ⟨(by rw [hw]; exact (by (with_reducible repeat (first | apply Kd.V_alloc | apply Kd.V_drewN | apply Kd.V_drew)); exact Kd.V_mono (Kd.V_far (p := ⟨gb481, 4, none⟩) (Kd.V_far (p := ⟨gb481, 3, none⟩) (Kd.V_far (p := ⟨gb481, 2, none⟩) (Kd.V_far (p := ⟨gb481, 1, none⟩) (Kd.V_far (p := ⟨gb481, 0, none⟩) (Kd.V_mono HO_482000.out (fun k_ hk => (⟨hk, hk.2.2.1⟩ : _ ∧ k_ ≠ gb481))) (fun _ hk => hk.2) (.slice Ao14 t483.length co14)) (fun _ hk => hk.2) (.bool t486)) (fun _ hk => hk.2) (.int .i64 t487)) (fun _ hk => hk.2) (.bool t488)) (fun _ hk => hk.2) (.bool t489)) (fun _ hk => ⟨hk.1.1, ⟨hk.1.2.1, ⟨hk.1.2.2.1, hk.1.2.2.2⟩⟩⟩)))⟩; have n2_ : Aside0 (Kd.V (Kd.int .i64) 3 w24 w.heap.size (fun k_ => (w.heap.size ≤ k_) ∧ some k_ ≠ (u3 : Value).ownBlock ∧ k_ ≠ gb481 ∧ k_ ≠ gb493) (.slice Ao14 t483.length co14) t483) := ⟨(by rw [hw]; exact (by (with_reducible repeat (first | apply Kd.V_alloc | apply Kd.V_drewN | apply Kd.V_drew)); exact Kd.V_mono (Kd.V_far (p := ⟨gb481, 4, none⟩) (Kd.V_far (p := ⟨gb481, 3, none⟩) (Kd.V_far (p := ⟨gb481, 2, none⟩) (Kd.V_far (p := ⟨gb481, 1, none⟩) (Kd.V_far (p := ⟨gb481, 0, none⟩) (Kd.V_mono HO485.out (fun k_ hk => (⟨hk, hk.2.2.1⟩ : _ ∧ k_ ≠ gb481))) (fun _ hk => hk.2) (.slice Ao14 t483.length co14)) (fun _ hk => hk.2) (.bool t486)) (fun _ hk => hk.2) (.int .i64 t487)) (fun _ hk => hk.2) (.bool t488)) (fun _ hk => hk.2) (.bool t489)) (fun _ hk => ⟨hk.1.1, ⟨hk.1.2.1, ⟨hk.1.2.2.1, hk.1.2.2.2⟩⟩⟩)))⟩; have n3_ : Aside0 (Kd.V (Kd.int .i64) 3 w24 w.heap.size (fun k_ => (w.heap.size ≤ k_) ∧ some k_ ≠ (u3 : Value).ownBlock ∧ k_ ≠ gb481 ∧ k_ ≠ gb493) v491 t490) := ⟨(by rw [hw]; exact (by (with_reducible repeat (first | apply Kd.V_alloc | apply Kd.V_drewN | apply Kd.V_drew)); exact Kd.V_mono (Kd.V_far (p := ⟨gb481, 4, none⟩) (Kd.V_far (p := ⟨gb481, 3, none⟩) (Kd.V_far (p := ⟨gb481, 2, none⟩) (Kd.V_far (p := ⟨gb481, 1, none⟩) (Kd.V_far (p := ⟨gb481, 0, none⟩) (Kd.V_mono HO492.out (fun k_ hk => (⟨hk, hk.2.2.1⟩ : _ ∧ k_ ≠ gb481))) (fun _ hk => hk.2) (.slice Ao14 t483.length co14)) (fun _ hk => hk.2) (.bool t486)) (fun _ hk => hk.2) (.int .i64 t487)) (fun _ hk => hk.2) (.bool t488)) (fun _ hk => hk.2) (.bool t489)) (fun _ hk => ⟨hk.1.1, ⟨hk.1.2.1, ⟨hk.1.2.2.1, hk.1.2.2.2⟩⟩⟩)))⟩; have n4_ : Aside0 (w24.heap[gb481]? = some (.cells #[.slice Ao14 t483.length co14, .bool t486, .int .i64 t487, .bool t488, .bool t489] 48 (0, 0))) := ⟨(by rw [hw]; exact (by (with_reducible repeat (first | refine blk_drewN ?_ _ | refine blk_drew ?_ | refine blk_alloc ?_ _)); refine blk_put (cs := #[.slice Ao14 t483.length co14, .bool t486, .int .i64 t487, .bool t488, .bool x482004_1]) ?_ 4 _ rfl; (with_reducible repeat (first | refine blk_drewN ?_ _ | refine blk_drew ?_ | refine blk_alloc ?_ _)); refine blk_put (cs := #[.slice Ao14 t483.length co14, .bool t486, .int .i64 t487, .bool x482003_1, .bool x482004_1]) ?_ 3 _ rfl; (with_reducible repeat (first | refine blk_drewN ?_ _ | refine blk_drew ?_ | refine blk_alloc ?_ _)); refine blk_put (cs := #[.slice Ao14 t483.length co14, .bool t486, .int .i64 x482002_1, .bool x482003_1, .bool x482004_1]) ?_ 2 _ rfl; (with_reducible repeat (first | refine blk_drewN ?_ _ | refine blk_drew ?_ | refine blk_alloc ?_ _)); refine blk_put (cs := #[.slice Ao14 t483.length co14, .bool x482001_1, .int .i64 x482002_1, .bool x482003_1, .bool x482004_1]) ?_ 1 _ rfl; (with_reducible repeat (first | refine blk_drewN ?_ _ | refine blk_drew ?_ | refine blk_alloc ?_ _)); refine blk_put (cs := #[.slice Ao9 x482000_1.length co9, .bool x482001_1, .int .i64 x482002_1, .bool x482003_1, .bool x482004_1]) ?_ 0 _ rfl; (with_reducible repeat (first | refine blk_drewN ?_ _ | refine blk_drew ?_ | refine blk_alloc ?_ _)); exact BK481.out))⟩; have n5_ : Aside0 (w24.heap[gb493]? = some (.cells #[.slice Ao14 t483.length co14, .bool t486, .int .i64 t487, .bool t488, .bool t489] 48 (0, 0))) := ⟨(by rw [hw]; exact (by (with_reducible repeat (first | refine blk_drewN ?_ _ | refine blk_drew ?_ | refine blk_alloc ?_ _)); refine blk_far ?_ NB493_481.out _; (with_reducible repeat (first | refine blk_drewN ?_ _ | refine blk_drew ?_ | refine blk_alloc ?_ _)); refine blk_far ?_ NB493_481.out _; (with_reducible repeat (first | refine blk_drewN ?_ _ | refine blk_drew ?_ | refine blk_alloc ?_ _)); refine blk_far ?_ NB493_481.out _; (with_reducible repeat (first | refine blk_drewN ?_ _ | refine blk_drew ?_ | refine blk_alloc ?_ _)); refine blk_far ?_ NB493_481.out _; (with_reducible repeat (first | refine blk_drewN ?_ _ | refine blk_drew ?_ | refine blk_alloc ?_ _)); refine blk_far ?_ NB493_481.out _; (with_reducible repeat (first | refine blk_drewN ?_ _ | refine blk_drew ?_ | refine blk_alloc ?_ _)); exact BK493.out))⟩; have n6_ : Aside0 (Below w.heap.size w w24) := ⟨(by rw [hw]; exact (by repeat (first | (with_reducible first | exact HB.out | apply below_alloc | apply pw_below_drewN | apply below_drew1 | refine below_set ?_ GE481.out | refine below_set ?_ GE493.out) | exact HB.out)))⟩; clear hw; clear HO_3; clear HO_482000; clear HO485; clear HO492; clear BK481; clear BK493; clear HB; have HO_3 := n0_; have HO_482000 := n1_; have HO485 := n2_; have HO492 := n3_; have BK481 := n4_; have BK493 := n5_; have HB := n6_; clear n0_ n1_ n2_ n3_ n4_ n5_ n6_; obtain ⟨Ao25, co25, eo25⟩ := Kd.V_slice HO492.out; subst eo25) | ((with_reducible refine gate_builtin (b := .append) (xs := #[.tmp 29, .tmp 31]) rfl ?_); at_builtin; refine Kd.N_append (Kd.slice 3 (Kd.int .i64)) (w0 := w) w.heap.size rfl (.tmp 29) (.tmp 31) 41 22 (.slice none 0 0) 24 rfl Try.underlying41 info22 rfl (by decide) (by omega) u3 x3_1 t490 [.slice Ao25 t490.length co25] (fun k_ => (w.heap.size ≤ k_) ∧ k_ ≠ gb481 ∧ k_ ≠ gb493) (fun k_ => ((fun k_ => (w.heap.size ≤ k_) ∧ k_ ≠ gb481 ∧ k_ ≠ gb493)) k_ ∧ some k_ ≠ (u3 : Value).ownBlock) rfl rfl ?aP (fun _ hk => hk) ?aF ?aO ?aB ?aS ?aL ?_; (case aP => exact (Kd.FK_slice_mk (Kd.V_reads' (Kd.V_mono (ok' := (fun k_ => ((fun k_ => (w.heap.size ≤ k_) ∧ k_ ≠ gb481 ∧ k_ ≠ gb493)) k_ ∧ some k_ ≠ (u3 : Value).ownBlock)) (HO492.out) (fun k_ hk => ⟨⟨hk.1, ⟨hk.2.2.1, hk.2.2.2⟩⟩, hk.2.1⟩))).2.1 (Kd.V_F (Kd.V_mono (ok' := (fun k_ => ((fun k_ => (w.heap.size ≤ k_) ∧ k_ ≠ gb481 ∧ k_ ≠ gb493)) k_ ∧ some k_ ≠ (u3 : Value).ownBlock)) (HO492.out) (fun k_ hk => ⟨⟨hk.1, ⟨hk.2.2.1, hk.2.2.2⟩⟩, hk.2.1⟩))))); (case aB => exact (by repeat (first | (with_reducible first | exact HB.out | apply below_alloc | apply pw_below_drewN | apply below_drew1 | refine below_set ?_ GE481.out | refine below_set ?_ GE493.out) | exact HB.out))); (case aF => exact (fun k_ hk => ⟨(Nat.le_trans (below_size (by repeat (first | (with_reducible first | exact HB.out | apply below_alloc | apply pw_below_drewN | apply below_drew1 | refine below_set ?_ GE481.out | refine below_set ?_ GE493.out) | exact HB.out))) hk), Kd.freshB (g := gb481) (o := .cells #[.slice Ao14 t483.length co14, .bool t486, .int .i64 t487, .bool t488, .bool t489] 48 (0, 0)) (by (with_reducible repeat (first | refine blk_drewN ?_ _ | refine blk_drew ?_ | refine blk_alloc ?_ _)); exact BK481.out) k_ hk, Kd.freshB (g := gb493) (o := .cells #[.slice Ao14 t483.length co14, .bool t486, .int .i64 t487, .bool t488, .bool t489] 48 (0, 0)) (by (with_reducible repeat (first | refine blk_drewN ?_ _ | refine blk_drew ?_ | refine blk_alloc ?_ _)); exact BK493.out) k_ hk⟩)); (case aO => exact (by (with_reducible repeat (first | apply Kd.N_alloc | apply Kd.N_drewN | apply Kd.N_drew)); exact HO_3.out)); (case aS => exact (below_size (by repeat (first | (with_reducible first | exact HB.out | apply below_alloc | apply pw_below_drewN | apply below_drew1 | refine below_set ?_ GE481.out | refine below_set ?_ GE493.out) | exact HB.out)))); (case aL => have := LMc8.out; omega); intro v495 w26 ho hb hg hat; rw [← Ny494.out] at ho; have n0_ := Aside0.mk (Kd.V_afterv (ok := (fun k_ => (w.heap.size ≤ k_) ∧ k_ ≠ gb481 ∧ k_ ≠ gb493)) (by (with_reducible repeat (first | apply Kd.V_alloc | apply Kd.V_drewN | apply Kd.V_drew)); exact Kd.V_mono HO_482000.out (fun _ hk => ⟨⟨hk.1, ⟨hk.2.2.1, hk.2.2.2⟩⟩, hk.2.1⟩)) hg hat); have n1_ := Aside0.mk (blk_grown (g := gb481) (o := .cells #[.slice Ao14 t483.length co14, .bool t486, .int .i64 t487, .bool t488, .bool t489] 48 (0, 0)) (by (with_reducible repeat (first | refine blk_drewN ?_ _ | refine blk_drew ?_ | refine blk_alloc ?_ _)); exact BK481.out) hg (Kd.N_ne HO_3.out BK481.out (by decide))); have n2_ := Aside0.mk (Kd.V_afterv (ok := (fun k_ => (w.heap.size ≤ k_) ∧ k_ ≠ gb481 ∧ k_ ≠ gb493)) (by (with_reducible repeat (first | apply Kd.V_alloc | apply Kd.V_drewN | apply Kd.V_drew)); exact Kd.V_mono HO485.out (fun _ hk => ⟨⟨hk.1, ⟨hk.2.2.1, hk.2.2.2⟩⟩, hk.2.1⟩)) hg hat); have n3_ := Aside0.mk (Kd.V_afterv (ok := (fun k_ => (w.heap.size ≤ k_) ∧ k_ ≠ gb481 ∧ k_ ≠ gb493)) (by (with_reducible repeat (first | apply Kd.V_alloc | apply Kd.V_drewN | apply Kd.V_drew)); exact Kd.V_mono HO492.out (fun _ hk => ⟨⟨hk.1, ⟨hk.2.2.1, hk.2.2.2⟩⟩, hk.2.1⟩)) hg hat); have n4_ := Aside0.mk (blk_grown (g := gb493) (o := .cells #[.slice Ao14 t483.length co14, .bool t486, .int .i64 t487, .bool t488, .bool t489] 48 (0, 0)) (by (with_reducible repeat (first | refine blk_drewN ?_ _ | refine blk_drew ?_ | refine blk_alloc ?_ _)); exact BK493.out) hg (Kd.N_ne HO_3.out BK493.out (by decide))); have n5_ := Aside0.mk (hb); have n6_ := Aside0.mk (ho); clear HO_482000; clear BK481; clear HO485; clear HO492; clear BK493; clear HB; clear HO_3; have HO_482000 := n0_; have BK481 := n1_; have HO485 := n2_; have HO492 := n3_; have BK493 := n4_; have HB := n5_; have HO496 := n6_; clear n0_ n1_ n2_ n3_ n4_ n5_ n6_; clear ho hb hg hat))
              go_roundg k1
              case measure => have := HK1.out; omega
              case rel => exact ⟨(y494), (wrap64 (x5_1 + 1)), (t483), (t486), (t487), (t488), (t489), (.slice Ao14 t483.length co14), (by first | rfl | (simp; done) | (simp [*]; done)), H', ⟨by have := HK1.out; omega⟩, ⟨by (with_reducible repeat (first | apply Kd.N_alloc | apply Kd.N_drewN | apply Kd.N_drew)); exact Kd.N_mono HO496.out (fun _ hk => ⟨hk.1, hk.2.1⟩)⟩, ⟨by (with_reducible repeat (first | apply Kd.V_alloc | apply Kd.V_drewN | apply Kd.V_drew)); exact Kd.V_mono HO485.out (fun _ hk => ⟨hk.1.1, ⟨hk.2, hk.1.2.1⟩⟩)⟩, ⟨by (with_reducible repeat (first | refine blk_drewN ?_ _ | refine blk_drew ?_ | refine blk_alloc ?_ _)); exact BK481.out⟩, ⟨by repeat (first | (with_reducible first | exact HB.out | apply below_alloc | apply pw_below_drewN | apply below_drew1 | refine below_set ?_ GE481.out | refine below_set ?_ GE493.out) | exact HB.out)⟩⟩
            · rw [if_neg c8] at H
              exact absurd H (by simp)
          · rw [if_neg c7] at H
            have c7b0 : decide (0 < (t490.length : Int)) = false := decide_eq_false c7
            have c7b1 : decide (0 < t490.length) = false := decide_eq_false (by omega)
            clear c7
            have H' := Aside0.mk H
            clear H
            obtain ⟨Ao27, co27, eo27⟩ := Kd.V_slice HO_482000.out
            subst eo27
            try go_wp2
            have n0_ := Aside0.mk (Kd.N_drew HO_3.out)
            have n1_ := Aside0.mk (Kd.V_drew HO_482000.out)
            have n2_ := Aside0.mk (blk_drew BK481.out)
            have n3_ := Aside0.mk (below_drew1 HB.out)
            clear HO_3
            clear HO_482000
            clear BK481
            clear HB
            have HO_3 := n0_
            have HO_482000 := n1_
            have BK481 := n2_
            have HB := n3_
            clear n0_ n1_ n2_ n3_
            have p482 : 0 ≤ (x5_1 : Int) := of_decide_eq_true (by first | (with_reducible assumption) | assumption)
            have q482 : x5_1 < (l0.length : Int) := of_decide_eq_true (by first | (with_reducible assumption) | assumption)
            obtain ⟨ad482, e482, hx482_0⟩ := Kd.at_int HR0.out x5_1 p482 q482
            have hw482_0 := hx482_0
            cases e482
            replace hx482_0 := (HB.out.cell (World.block_lt_of_cell? w _ hx482_0)).trans hx482_0
            replace p482 := eq_true p482
            replace q482 := eq_true q482
            refine start_ (n := 12) (S := fun w' => w'.cell? ⟨gb481, 0, none⟩ = some (.slice Ao27 x482000_1.length co27) ∧ w'.cell? ⟨gb481, 1, none⟩ = some (.bool x482001_1) ∧ w'.cell? ⟨gb481, 2, none⟩ = some (.int .i64 x482002_1) ∧ w'.cell? ⟨gb481, 3, none⟩ = some (.bool x482003_1) ∧ w'.cell? ⟨gb481, 4, none⟩ = some (.bool x482004_1) ∧ w'.cell? (ad482.add (x5_1).toNat) = some (.int .i64 (rd l0 x5_1))) (ds := []) #[false, false, false, false, false, false, false, false, false, false, false, false] (by kernel_rfl) rfl rfl ⟨(blk_cell BK481.out 0).trans rfl, (blk_cell BK481.out 1).trans rfl, (blk_cell BK481.out 2).trans rfl, (blk_cell BK481.out 3).trans rfl, (blk_cell BK481.out 4).trans rfl, ((HB.out.cell (World.block_lt_of_cell? w _ hw482_0)).trans hw482_0)⟩ (fun hHeld => ?_); refine with_tabW pentroughref12_All.tab6 pentroughref12_All.bits6 (fun HT_ HW_ => ?_)
            generalize wr.drew = w28 at HO_3 HO_482000 BK481 HB hx482_0 hHeld ⊢
            refine pure_ (i := 1) (N := some 18) (v := ?_) (a' := ?_) #[false, true, false, false, false, false, false, false, false, false, false, false] rfl rfl (any_of HT_.out (by kernel_rfl)) (fun _ _ _ h => h) (Or.inl ⟨by rfl, ?_⟩) ?_ ?_
            rotate_left
            · intro w'
              go_simp
              with_reducible rfl
            rotate_left
            · simp only [Act.put, List.setIfInBounds_toArray, List.set_cons_zero, List.set_cons_succ, i64_w, i32_w]
              rfl
            refine pure_ (i := 2) (N := some 19) (v := ?_) (a' := ?_) #[false, true, true, false, false, false, false, false, false, false, false, false] rfl rfl (any_of HT_.out (by kernel_rfl)) (fun _ _ _ h => h) (Or.inl ⟨by rfl, ?_⟩) ?_ ?_
            rotate_left
            · intro w'
              go_simp
              with_reducible rfl
            rotate_left
            · simp only [Act.put, List.setIfInBounds_toArray, List.set_cons_zero, List.set_cons_succ, i64_w, i32_w]
              rfl
            refine pure_ (i := 3) (N := some 20) (v := ?_) (a' := ?_) #[false, true, true, true, false, false, false, false, false, false, false, false] rfl rfl (any_of HT_.out (by kernel_rfl)) (fun _ _ _ h => h) (Or.inl ⟨by rfl, ?_⟩) ?_ ?_
            rotate_left
            · intro w'
              go_simp
              with_reducible rfl
            rotate_left
            · simp only [Act.put, List.setIfInBounds_toArray, List.set_cons_zero, List.set_cons_succ, i64_w, i32_w]
              rfl
            refine take_ (i := 0) (N := some 17) (v := ?_) (a' := ?_) #[true, true, true, true, false, false, false, false, false, false, false, false] rfl rfl (take_ofW HT_.out HW_.out (by kernel_rfl)) (fun _ _ _ h => h) (Or.inl ⟨by rfl, ?_⟩) hHeld ?_ ?_
            rotate_left
            · rintro w' ⟨s0, s1, s2, s3, s4, s5⟩
              go_simp
              with_reducible rfl
            rotate_left
            · simp only [Act.put, List.setIfInBounds_toArray, List.set_cons_zero, List.set_cons_succ, i64_w, i32_w]
              rfl
            refine take_ (i := 4) (N := some 21) (v := ?_) (a' := ?_) #[true, true, true, true, true, false, false, false, false, false, false, false] rfl rfl (take_ofW HT_.out HW_.out (by kernel_rfl)) (fun _ _ _ h => h) (Or.inl ⟨by rfl, ?_⟩) hHeld ?_ ?_
            rotate_left
            · rintro w' ⟨s0, s1, s2, s3, s4, s5⟩
              go_simp
              with_reducible rfl
            rotate_left
            · simp only [Act.put, List.setIfInBounds_toArray, List.set_cons_zero, List.set_cons_succ, i64_w, i32_w]
              rfl
            refine join_ (σ := Value × Value × Nat) 2 #[true, true, true, true, true, true, true, true, true, true, false, false] (fun s_ => [(22, .tuple #[.agg #[s_.1, .bool t486, .int .i64 t487, .bool t488, .bool t489], s_.2.1]), (6, .pointer (some ⟨s_.2.2, 0, none⟩)), (16, .tuple #[.agg #[s_.1, .bool t486, .int .i64 t487, .bool t488, .bool t489], s_.2.1]), (23, .agg #[s_.1, .bool t486, .int .i64 t487, .bool t488, .bool t489]), (24, s_.2.1)]) (fun s_ w' => (w'.cell? ⟨gb481, 0, none⟩ = some (.slice Ao27 x482000_1.length co27) ∧ w'.cell? ⟨gb481, 1, none⟩ = some (.bool x482001_1) ∧ w'.cell? ⟨gb481, 2, none⟩ = some (.int .i64 x482002_1) ∧ w'.cell? ⟨gb481, 3, none⟩ = some (.bool x482003_1) ∧ w'.cell? ⟨gb481, 4, none⟩ = some (.bool x482004_1) ∧ w'.cell? (ad482.add (x5_1).toNat) = some (.int .i64 (rd l0 x5_1))) ∧ (Kd.V (Kd.int .i64) 3 w' w.heap.size (fun k_ => (w.heap.size ≤ k_) ∧ some k_ ≠ (u3 : Value).ownBlock ∧ k_ ≠ gb481 ∧ k_ ≠ s_.2.2) s_.1 t483) ∧ (Kd.V (Kd.int .i64) 3 w' w.heap.size (fun k_ => (w.heap.size ≤ k_) ∧ some k_ ≠ (u3 : Value).ownBlock ∧ k_ ≠ gb481 ∧ k_ ≠ s_.2.2) s_.2.1 t490) ∧ (Kd.N (Kd.slice 3 (Kd.int .i64)) 22 w' w.heap.size (fun k_ => (w.heap.size ≤ k_) ∧ k_ ≠ gb481 ∧ k_ ≠ s_.2.2) u3 x3_1) ∧ (Kd.V (Kd.int .i64) 3 w' w.heap.size (fun k_ => (w.heap.size ≤ k_) ∧ some k_ ≠ (u3 : Value).ownBlock ∧ k_ ≠ gb481 ∧ k_ ≠ s_.2.2) (.slice Ao27 x482000_1.length co27) x482000_1) ∧ (w'.heap[gb481]? = some (.cells #[.slice Ao27 x482000_1.length co27, .bool x482001_1, .int .i64 x482002_1, .bool x482003_1, .bool x482004_1] 48 (0, 0))) ∧ (w'.heap[s_.2.2]? = some (.cells #[.slice none 0 0, .bool false, .int .i64 0, .bool false, .bool false] 48 (0, 0))) ∧ (w.heap.size ≤ s_.2.2) ∧ (w.heap.size ≤ s_.2.2) ∧ (gb481 ≠ s_.2.2) ∧ (s_.2.2 ≠ gb481) ∧ (Below w.heap.size w w')) ?_ ?_
            rotate_left
            · intro hCont
              refine two_ (i := 5) (j := 9) (Ni := some 22) (Nj := some 6) #[true, true, true, true, true, true, false, false, false, false, false, false] #[true, true, true, true, true, false, false, false, false, true, false, false] rfl rfl rfl rfl (two_of HT_.out (by kernel_rfl)) (by decide) (by decide) (fun K hK => ?_) (fun K hK => ?_)
              · skip
                refine goes_ Try.func33 (by kernel_rfl) rfl #[.agg #[.slice Ao27 x482000_1.length co27, .bool x482001_1, .int .i64 x482002_1, .bool x482003_1, .bool x482004_1], .int .i64 (rd l0 x5_1)] (by rfl) rfl rfl (by (try simp only [List.map_toArray, List.map_cons, List.map_nil]); first | done | rfl | (simp only [List.length_drop, List.length_take]; rfl)) ?_
                with_reducible refine (pentroughref12_Feed.calls (fun k_ => ((w.heap.size ≤ k_) ∧ (some k_ ≠ (u3 : Value).ownBlock ∧ k_ ≠ gb481))) _ _ x482000_1 x482001_1 x482002_1 x482003_1 x482004_1 (rd l0 x5_1) t483 t486 t487 t488 t489 t490 _ ?side1 A6.out).mono ?_
                (case side1 => exact HO_482000.out)
                rintro e w29 ⟨v484, v491, rfl, ho0, ho1, hb⟩
                refine ⟨_, rfl, ?_⟩
                have n0_ := Aside0.mk (Kd.N_below (by (with_reducible repeat (first | apply Kd.N_alloc | apply Kd.N_drewN | apply Kd.N_drew)); exact HO_3.out) hb)
                have n1_ := Aside0.mk (Kd.V_below (by (with_reducible repeat (first | apply Kd.V_alloc | apply Kd.V_drewN | apply Kd.V_drew)); exact HO_482000.out) hb)
                have n2_ := Aside0.mk (Kd.V_lower (Kd.V_mono (ok' := fun k_ => (w.heap.size ≤ k_) ∧ some k_ ≠ (u3 : Value).ownBlock ∧ k_ ≠ gb481) ho0 (fun k_ hk_ => ⟨Or.elim hk_ (fun hs_ => hs_.1) (fun hn_ => (Nat.le_trans (below_size (by repeat (first | (with_reducible first | exact HB.out | apply below_alloc | apply pw_below_drewN | apply below_drew1 | refine below_set ?_ GE481.out) | exact HB.out))) hn_)), Or.elim hk_ (fun hs_ => hs_.2.1) (fun hn_ => (Kd.fresh' (Kd.N_lt (by (with_reducible repeat (first | apply Kd.N_alloc | apply Kd.N_drewN | apply Kd.N_drew)); exact HO_3.out)) k_ hn_)), Or.elim hk_ (fun hs_ => hs_.2.2) (fun hn_ => (Kd.freshB (g := gb481) (o := .cells #[.slice Ao27 x482000_1.length co27, .bool x482001_1, .int .i64 x482002_1, .bool x482003_1, .bool x482004_1] 48 (0, 0)) (by (with_reducible repeat (first | refine blk_drewN ?_ _ | refine blk_drew ?_ | refine blk_alloc ?_ _)); exact BK481.out) k_ hn_))⟩)) (below_size (by repeat (first | (with_reducible first | exact HB.out | apply below_alloc | apply pw_below_drewN | apply below_drew1 | refine below_set ?_ GE481.out) | exact HB.out))))
                have n3_ := Aside0.mk (Kd.V_lower (Kd.V_mono (ok' := fun k_ => (w.heap.size ≤ k_) ∧ some k_ ≠ (u3 : Value).ownBlock ∧ k_ ≠ gb481) ho1 (fun k_ hk_ => ⟨Or.elim hk_ (fun hs_ => hs_.1) (fun hn_ => (Nat.le_trans (below_size (by repeat (first | (with_reducible first | exact HB.out | apply below_alloc | apply pw_below_drewN | apply below_drew1 | refine below_set ?_ GE481.out) | exact HB.out))) hn_)), Or.elim hk_ (fun hs_ => hs_.2.1) (fun hn_ => (Kd.fresh' (Kd.N_lt (by (with_reducible repeat (first | apply Kd.N_alloc | apply Kd.N_drewN | apply Kd.N_drew)); exact HO_3.out)) k_ hn_)), Or.elim hk_ (fun hs_ => hs_.2.2) (fun hn_ => (Kd.freshB (g := gb481) (o := .cells #[.slice Ao27 x482000_1.length co27, .bool x482001_1, .int .i64 x482002_1, .bool x482003_1, .bool x482004_1] 48 (0, 0)) (by (with_reducible repeat (first | refine blk_drewN ?_ _ | refine blk_drew ?_ | refine blk_alloc ?_ _)); exact BK481.out) k_ hn_))⟩)) (below_size (by repeat (first | (with_reducible first | exact HB.out | apply below_alloc | apply pw_below_drewN | apply below_drew1 | refine below_set ?_ GE481.out) | exact HB.out))))
                have n4_ := Aside0.mk (blk_below (g := gb481) (o := .cells #[.slice Ao27 x482000_1.length co27, .bool x482001_1, .int .i64 x482002_1, .bool x482003_1, .bool x482004_1] 48 (0, 0)) (by (with_reducible repeat (first | refine blk_drewN ?_ _ | refine blk_drew ?_ | refine blk_alloc ?_ _)); exact BK481.out) hb)
                have n5_ := Aside0.mk (below_step (by repeat (first | (with_reducible first | exact HB.out | apply below_alloc | apply pw_below_drewN | apply below_drew1 | refine below_set ?_ GE481.out) | exact HB.out)) hb)
                clear HO_3
                clear HO_482000
                clear BK481
                clear HB
                have HO_3 := n0_
                have HO_482000 := n1_
                have HO485 := n2_
                have HO492 := n3_
                have BK481 := n4_
                have HB := n5_
                clear n0_ n1_ n2_ n3_ n4_ n5_
                (try clear hb)
                (try clear hb2)
                (try clear hk)
                (try clear hi)
                (try clear ho0)
                (try clear ho1)
                refine hK.out _ _ ⟨(blk_cell BK481.out 0).trans rfl, (blk_cell BK481.out 1).trans rfl, (blk_cell BK481.out 2).trans rfl, (blk_cell BK481.out 3).trans rfl, (blk_cell BK481.out 4).trans rfl, ((HB.out.cell (World.block_lt_of_cell? w _ hw482_0)).trans hw482_0)⟩ (fun hHeld => ?_)
                clear hK K
                refine norm_ (a' := ?_) ?_ ?_
                rotate_left
                · show Act.put _ (some 22) _ = _
                  simp only [Act.put, List.setIfInBounds_toArray, List.set_cons_zero, List.set_cons_succ, i64_w, i32_w]
                  rfl
                refine pure_ (i := 6) (N := some 16) (v := ?_) (a' := ?_) #[true, true, true, true, true, true, true, false, false, false, false, false] rfl rfl (any_of HT_.out (by kernel_rfl)) (fun _ _ _ h => h) (Or.inl ⟨by rfl, ?_⟩) ?_ ?_
                rotate_left
                · intro w'
                  go_simp
                  with_reducible rfl
                rotate_left
                · simp only [Act.put, List.setIfInBounds_toArray, List.set_cons_zero, List.set_cons_succ, i64_w, i32_w]
                  rfl
                refine pure_ (i := 7) (N := some 23) (v := ?_) (a' := ?_) #[true, true, true, true, true, true, true, true, false, false, false, false] rfl rfl (any_of HT_.out (by kernel_rfl)) (fun _ _ _ h => h) (Or.inl ⟨by rfl, ?_⟩) ?_ ?_
                rotate_left
                · intro w'
                  go_simp
                  with_reducible rfl
                rotate_left
                · simp only [Act.put, List.setIfInBounds_toArray, List.set_cons_zero, List.set_cons_succ, i64_w, i32_w]
                  rfl
                refine pure_ (i := 8) (N := some 24) (v := ?_) (a' := ?_) #[true, true, true, true, true, true, true, true, true, false, false, false] rfl rfl (any_of HT_.out (by kernel_rfl)) (fun _ _ _ h => h) (Or.inl ⟨by rfl, ?_⟩) ?_ ?_
                rotate_left
                · intro w'
                  go_simp
                  with_reducible rfl
                rotate_left
                · simp only [Act.put, List.setIfInBounds_toArray, List.set_cons_zero, List.set_cons_succ, i64_w, i32_w]
                  rfl
                refine one_ (i := 9) (N := some 6) #[true, true, true, true, true, true, true, true, true, true, false, false] rfl rfl (one_of HT_.out (by kernel_rfl)) (by decide) (fun K hK => ?_)
                refine box_step ?hg (N := 6) ?hd (cs := #[.slice none 0 0, .bool false, .int .i64 0, .bool false, .bool false]) (t := 48) ?hr ?_; (case hd => rfl); (case hg => rfl); (case hr => first | (go_simp; done) | (go_simp; rfl))
                intro gb493 hg w30 hbox hb
                have n0_ := Aside0.mk (Kd.N_below (Kd.N_elderB (by (with_reducible repeat (first | apply Kd.N_alloc | apply Kd.N_drewN | apply Kd.N_drew)); exact HO_3.out) gb493 (Nat.le_of_eq hg.symm)) hb)
                have n1_ := Aside0.mk (Kd.V_below (Kd.V_elderB (by (with_reducible repeat (first | apply Kd.V_alloc | apply Kd.V_drewN | apply Kd.V_drew)); exact HO_482000.out) gb493 (Nat.le_of_eq hg.symm)) hb)
                have n2_ := Aside0.mk (Kd.V_below (Kd.V_elderB (by (with_reducible repeat (first | apply Kd.V_alloc | apply Kd.V_drewN | apply Kd.V_drew)); exact HO485.out) gb493 (Nat.le_of_eq hg.symm)) hb)
                have n3_ := Aside0.mk (Kd.V_below (Kd.V_elderB (by (with_reducible repeat (first | apply Kd.V_alloc | apply Kd.V_drewN | apply Kd.V_drew)); exact HO492.out) gb493 (Nat.le_of_eq hg.symm)) hb)
                have n4_ := Aside0.mk (blk_below (g := gb481) (o := .cells #[.slice Ao27 x482000_1.length co27, .bool x482001_1, .int .i64 x482002_1, .bool x482003_1, .bool x482004_1] 48 (0, 0)) (by (with_reducible repeat (first | refine blk_drewN ?_ _ | refine blk_drew ?_ | refine blk_alloc ?_ _)); exact BK481.out) hb)
                have n5_ := Aside0.mk (below_step (by repeat (first | (with_reducible first | exact HB.out | apply below_alloc | apply pw_below_drewN | apply below_drew1 | refine below_set ?_ GE481.out) | exact HB.out)) hb)
                have n6_ := Aside0.mk (hbox)
                have n7_ := Aside0.mk ((by rw [hg]; exact (below_size (by repeat (first | (with_reducible first | exact HB.out | apply below_alloc | apply pw_below_drewN | apply below_drew1 | refine below_set ?_ GE481.out) | exact HB.out))) : w.heap.size ≤ gb493))
                have n8_ := Aside0.mk ((by rw [hg]; exact (below_size (by repeat (first | (with_reducible first | exact HB.out | apply below_alloc | apply pw_below_drewN | apply below_drew1 | refine below_set ?_ GE481.out) | exact HB.out))) : w.heap.size ≤ gb493))
                have n9_ := Aside0.mk ((by rw [hg]; exact Nat.ne_of_lt (blk_lt (g := gb481) (o := .cells #[.slice Ao27 x482000_1.length co27, .bool x482001_1, .int .i64 x482002_1, .bool x482003_1, .bool x482004_1] 48 (0, 0)) (by (with_reducible repeat (first | refine blk_drewN ?_ _ | refine blk_drew ?_ | refine blk_alloc ?_ _)); exact BK481.out)) : gb481 ≠ gb493))
                have n10_ := Aside0.mk ((by rw [hg]; exact Nat.ne_of_gt (blk_lt (g := gb481) (o := .cells #[.slice Ao27 x482000_1.length co27, .bool x482001_1, .int .i64 x482002_1, .bool x482003_1, .bool x482004_1] 48 (0, 0)) (by (with_reducible repeat (first | refine blk_drewN ?_ _ | refine blk_drew ?_ | refine blk_alloc ?_ _)); exact BK481.out)) : gb493 ≠ gb481))
                clear HO_3
                clear HO_482000
                clear HO485
                clear HO492
                clear BK481
                clear HB
                have HO_3 := n0_
                have HO_482000 := n1_
                have HO485 := n2_
                have HO492 := n3_
                have BK481 := n4_
                have HB := n5_
                have BK493 := n6_
                have GW493 := n7_
                have GE493 := n8_
                have NB481_493 := n9_
                have NB493_481 := n10_
                clear n0_ n1_ n2_ n3_ n4_ n5_ n6_ n7_ n8_ n9_ n10_
                clear hb hbox hg
                refine hK.out _ _ ⟨(blk_cell BK481.out 0).trans rfl, (blk_cell BK481.out 1).trans rfl, (blk_cell BK481.out 2).trans rfl, (blk_cell BK481.out 3).trans rfl, (blk_cell BK481.out 4).trans rfl, ((HB.out.cell (World.block_lt_of_cell? w _ hw482_0)).trans hw482_0)⟩ (fun hHeld => ?_)
                clear hK K
                refine norm_ (a' := ?_) ?_ ?_
                rotate_left
                · show Act.put _ (some 6) _ = _
                  simp only [Act.put, List.setIfInBounds_toArray, List.set_cons_zero, List.set_cons_succ, i64_w, i32_w]
                  rfl
                exact norm_ (by simp only [putAll, Act.put, List.setIfInBounds_toArray, List.set_cons_zero, List.set_cons_succ]) (hCont (v484, v491, gb493) _ ⟨hHeld, (by (with_reducible repeat (first | apply Kd.V_alloc | apply Kd.V_drewN | apply Kd.V_drew)); exact Kd.V_mono HO485.out (fun _ hk => ⟨hk.1.1, ⟨hk.1.2.1, ⟨hk.1.2.2, hk.2⟩⟩⟩)), (by (with_reducible repeat (first | apply Kd.V_alloc | apply Kd.V_drewN | apply Kd.V_drew)); exact Kd.V_mono HO492.out (fun _ hk => ⟨hk.1.1, ⟨hk.1.2.1, ⟨hk.1.2.2, hk.2⟩⟩⟩)), (by (with_reducible repeat (first | apply Kd.N_alloc | apply Kd.N_drewN | apply Kd.N_drew)); exact Kd.N_mono HO_3.out (fun _ hk => ⟨hk.1.1, ⟨hk.1.2, hk.2⟩⟩)), (by (with_reducible repeat (first | apply Kd.V_alloc | apply Kd.V_drewN | apply Kd.V_drew)); exact Kd.V_mono HO_482000.out (fun _ hk => ⟨hk.1.1, ⟨hk.1.2.1, ⟨hk.1.2.2, hk.2⟩⟩⟩)), (by (with_reducible repeat (first | refine blk_drewN ?_ _ | refine blk_drew ?_ | refine blk_alloc ?_ _)); exact BK481.out), (by (with_reducible repeat (first | refine blk_drewN ?_ _ | refine blk_drew ?_ | refine blk_alloc ?_ _)); exact BK493.out), GW493.out, GE493.out, NB481_493.out, NB493_481.out, (by repeat (first | (with_reducible first | exact HB.out | apply below_alloc | apply pw_below_drewN | apply below_drew1 | refine below_set ?_ GE481.out | refine below_set ?_ GE493.out) | exact HB.out))⟩)
              · skip
                refine box_step ?hg (N := 6) ?hd (cs := #[.slice none 0 0, .bool false, .int .i64 0, .bool false, .bool false]) (t := 48) ?hr ?_; (case hd => rfl); (case hg => rfl); (case hr => first | (go_simp; done) | (go_simp; rfl))
                intro gb493 hg w29 hbox hb
                have n0_ := Aside0.mk (Kd.N_below (Kd.N_elderB (by (with_reducible repeat (first | apply Kd.N_alloc | apply Kd.N_drewN | apply Kd.N_drew)); exact HO_3.out) gb493 (Nat.le_of_eq hg.symm)) hb)
                have n1_ := Aside0.mk (Kd.V_below (Kd.V_elderB (by (with_reducible repeat (first | apply Kd.V_alloc | apply Kd.V_drewN | apply Kd.V_drew)); exact HO_482000.out) gb493 (Nat.le_of_eq hg.symm)) hb)
                have n2_ := Aside0.mk (blk_below (g := gb481) (o := .cells #[.slice Ao27 x482000_1.length co27, .bool x482001_1, .int .i64 x482002_1, .bool x482003_1, .bool x482004_1] 48 (0, 0)) (by (with_reducible repeat (first | refine blk_drewN ?_ _ | refine blk_drew ?_ | refine blk_alloc ?_ _)); exact BK481.out) hb)
                have n3_ := Aside0.mk (below_step (by repeat (first | (with_reducible first | exact HB.out | apply below_alloc | apply pw_below_drewN | apply below_drew1 | refine below_set ?_ GE481.out) | exact HB.out)) hb)
                have n4_ := Aside0.mk (hbox)
                have n5_ := Aside0.mk ((by rw [hg]; exact (below_size (by repeat (first | (with_reducible first | exact HB.out | apply below_alloc | apply pw_below_drewN | apply below_drew1 | refine below_set ?_ GE481.out) | exact HB.out))) : w.heap.size ≤ gb493))
                have n6_ := Aside0.mk ((by rw [hg]; exact (below_size (by repeat (first | (with_reducible first | exact HB.out | apply below_alloc | apply pw_below_drewN | apply below_drew1 | refine below_set ?_ GE481.out) | exact HB.out))) : w.heap.size ≤ gb493))
                have n7_ := Aside0.mk ((by rw [hg]; exact Nat.ne_of_lt (blk_lt (g := gb481) (o := .cells #[.slice Ao27 x482000_1.length co27, .bool x482001_1, .int .i64 x482002_1, .bool x482003_1, .bool x482004_1] 48 (0, 0)) (by (with_reducible repeat (first | refine blk_drewN ?_ _ | refine blk_drew ?_ | refine blk_alloc ?_ _)); exact BK481.out)) : gb481 ≠ gb493))
                have n8_ := Aside0.mk ((by rw [hg]; exact Nat.ne_of_gt (blk_lt (g := gb481) (o := .cells #[.slice Ao27 x482000_1.length co27, .bool x482001_1, .int .i64 x482002_1, .bool x482003_1, .bool x482004_1] 48 (0, 0)) (by (with_reducible repeat (first | refine blk_drewN ?_ _ | refine blk_drew ?_ | refine blk_alloc ?_ _)); exact BK481.out)) : gb493 ≠ gb481))
                clear HO_3
                clear HO_482000
                clear BK481
                clear HB
                have HO_3 := n0_
                have HO_482000 := n1_
                have BK481 := n2_
                have HB := n3_
                have BK493 := n4_
                have GW493 := n5_
                have GE493 := n6_
                have NB481_493 := n7_
                have NB493_481 := n8_
                clear n0_ n1_ n2_ n3_ n4_ n5_ n6_ n7_ n8_
                clear hb hbox hg
                refine hK.out _ _ ⟨(blk_cell BK481.out 0).trans rfl, (blk_cell BK481.out 1).trans rfl, (blk_cell BK481.out 2).trans rfl, (blk_cell BK481.out 3).trans rfl, (blk_cell BK481.out 4).trans rfl, ((HB.out.cell (World.block_lt_of_cell? w _ hw482_0)).trans hw482_0)⟩ (fun hHeld => ?_)
                clear hK K
                refine norm_ (a' := ?_) ?_ ?_
                rotate_left
                · show Act.put _ (some 6) _ = _
                  simp only [Act.put, List.setIfInBounds_toArray, List.set_cons_zero, List.set_cons_succ, i64_w, i32_w]
                  rfl
                refine one_ (i := 5) (N := some 22) #[true, true, true, true, true, true, false, false, false, true, false, false] rfl rfl (one_of HT_.out (by kernel_rfl)) (by decide) (fun K hK => ?_)
                refine goes_ Try.func33 (by kernel_rfl) rfl #[.agg #[.slice Ao27 x482000_1.length co27, .bool x482001_1, .int .i64 x482002_1, .bool x482003_1, .bool x482004_1], .int .i64 (rd l0 x5_1)] (by rfl) rfl rfl (by (try simp only [List.map_toArray, List.map_cons, List.map_nil]); first | done | rfl | (simp only [List.length_drop, List.length_take]; rfl)) ?_
                with_reducible refine (pentroughref12_Feed.calls (fun k_ => (((w.heap.size ≤ k_) ∧ (some k_ ≠ (u3 : Value).ownBlock ∧ k_ ≠ gb481)) ∧ k_ ≠ gb493)) _ _ x482000_1 x482001_1 x482002_1 x482003_1 x482004_1 (rd l0 x5_1) t483 t486 t487 t488 t489 t490 _ ?side1 A6.out).mono ?_
                (case side1 => exact HO_482000.out)
                rintro e w30 ⟨v484, v491, rfl, ho0, ho1, hb⟩
                refine ⟨_, rfl, ?_⟩
                have n0_ := Aside0.mk (Kd.N_below (by (with_reducible repeat (first | apply Kd.N_alloc | apply Kd.N_drewN | apply Kd.N_drew)); exact HO_3.out) hb)
                have n1_ := Aside0.mk (Kd.V_below (by (with_reducible repeat (first | apply Kd.V_alloc | apply Kd.V_drewN | apply Kd.V_drew)); exact HO_482000.out) hb)
                have n2_ := Aside0.mk (Kd.V_lower (Kd.V_mono (ok' := fun k_ => (w.heap.size ≤ k_) ∧ some k_ ≠ (u3 : Value).ownBlock ∧ k_ ≠ gb481 ∧ k_ ≠ gb493) ho0 (fun k_ hk_ => ⟨Or.elim hk_ (fun hs_ => hs_.1.1) (fun hn_ => (Nat.le_trans (below_size (by repeat (first | (with_reducible first | exact HB.out | apply below_alloc | apply pw_below_drewN | apply below_drew1 | refine below_set ?_ GE481.out | refine below_set ?_ GE493.out) | exact HB.out))) hn_)), Or.elim hk_ (fun hs_ => hs_.1.2.1) (fun hn_ => (Kd.fresh' (Kd.N_lt (by (with_reducible repeat (first | apply Kd.N_alloc | apply Kd.N_drewN | apply Kd.N_drew)); exact HO_3.out)) k_ hn_)), Or.elim hk_ (fun hs_ => hs_.1.2.2) (fun hn_ => (Kd.freshB (g := gb481) (o := .cells #[.slice Ao27 x482000_1.length co27, .bool x482001_1, .int .i64 x482002_1, .bool x482003_1, .bool x482004_1] 48 (0, 0)) (by (with_reducible repeat (first | refine blk_drewN ?_ _ | refine blk_drew ?_ | refine blk_alloc ?_ _)); exact BK481.out) k_ hn_)), Or.elim hk_ (fun hs_ => hs_.2) (fun hn_ => (Kd.freshB (g := gb493) (o := .cells #[.slice none 0 0, .bool false, .int .i64 0, .bool false, .bool false] 48 (0, 0)) (by (with_reducible repeat (first | refine blk_drewN ?_ _ | refine blk_drew ?_ | refine blk_alloc ?_ _)); exact BK493.out) k_ hn_))⟩)) (below_size (by repeat (first | (with_reducible first | exact HB.out | apply below_alloc | apply pw_below_drewN | apply below_drew1 | refine below_set ?_ GE481.out | refine below_set ?_ GE493.out) | exact HB.out))))
                have n3_ := Aside0.mk (Kd.V_lower (Kd.V_mono (ok' := fun k_ => (w.heap.size ≤ k_) ∧ some k_ ≠ (u3 : Value).ownBlock ∧ k_ ≠ gb481 ∧ k_ ≠ gb493) ho1 (fun k_ hk_ => ⟨Or.elim hk_ (fun hs_ => hs_.1.1) (fun hn_ => (Nat.le_trans (below_size (by repeat (first | (with_reducible first | exact HB.out | apply below_alloc | apply pw_below_drewN | apply below_drew1 | refine below_set ?_ GE481.out | refine below_set ?_ GE493.out) | exact HB.out))) hn_)), Or.elim hk_ (fun hs_ => hs_.1.2.1) (fun hn_ => (Kd.fresh' (Kd.N_lt (by (with_reducible repeat (first | apply Kd.N_alloc | apply Kd.N_drewN | apply Kd.N_drew)); exact HO_3.out)) k_ hn_)), Or.elim hk_ (fun hs_ => hs_.1.2.2) (fun hn_ => (Kd.freshB (g := gb481) (o := .cells #[.slice Ao27 x482000_1.length co27, .bool x482001_1, .int .i64 x482002_1, .bool x482003_1, .bool x482004_1] 48 (0, 0)) (by (with_reducible repeat (first | refine blk_drewN ?_ _ | refine blk_drew ?_ | refine blk_alloc ?_ _)); exact BK481.out) k_ hn_)), Or.elim hk_ (fun hs_ => hs_.2) (fun hn_ => (Kd.freshB (g := gb493) (o := .cells #[.slice none 0 0, .bool false, .int .i64 0, .bool false, .bool false] 48 (0, 0)) (by (with_reducible repeat (first | refine blk_drewN ?_ _ | refine blk_drew ?_ | refine blk_alloc ?_ _)); exact BK493.out) k_ hn_))⟩)) (below_size (by repeat (first | (with_reducible first | exact HB.out | apply below_alloc | apply pw_below_drewN | apply below_drew1 | refine below_set ?_ GE481.out | refine below_set ?_ GE493.out) | exact HB.out))))
                have n4_ := Aside0.mk (blk_below (g := gb481) (o := .cells #[.slice Ao27 x482000_1.length co27, .bool x482001_1, .int .i64 x482002_1, .bool x482003_1, .bool x482004_1] 48 (0, 0)) (by (with_reducible repeat (first | refine blk_drewN ?_ _ | refine blk_drew ?_ | refine blk_alloc ?_ _)); exact BK481.out) hb)
                have n5_ := Aside0.mk (blk_below (g := gb493) (o := .cells #[.slice none 0 0, .bool false, .int .i64 0, .bool false, .bool false] 48 (0, 0)) (by (with_reducible repeat (first | refine blk_drewN ?_ _ | refine blk_drew ?_ | refine blk_alloc ?_ _)); exact BK493.out) hb)
                have n6_ := Aside0.mk (below_step (by repeat (first | (with_reducible first | exact HB.out | apply below_alloc | apply pw_below_drewN | apply below_drew1 | refine below_set ?_ GE481.out | refine below_set ?_ GE493.out) | exact HB.out)) hb)
                clear HO_3
                clear HO_482000
                clear BK481
                clear BK493
                clear HB
                have HO_3 := n0_
                have HO_482000 := n1_
                have HO485 := n2_
                have HO492 := n3_
                have BK481 := n4_
                have BK493 := n5_
                have HB := n6_
                clear n0_ n1_ n2_ n3_ n4_ n5_ n6_
                (try clear hb)
                (try clear hb2)
                (try clear hk)
                (try clear hi)
                (try clear ho0)
                (try clear ho1)
                refine hK.out _ _ ⟨(blk_cell BK481.out 0).trans rfl, (blk_cell BK481.out 1).trans rfl, (blk_cell BK481.out 2).trans rfl, (blk_cell BK481.out 3).trans rfl, (blk_cell BK481.out 4).trans rfl, ((HB.out.cell (World.block_lt_of_cell? w _ hw482_0)).trans hw482_0)⟩ (fun hHeld => ?_)
                clear hK K
                refine norm_ (a' := ?_) ?_ ?_
                rotate_left
                · show Act.put _ (some 22) _ = _
                  simp only [Act.put, List.setIfInBounds_toArray, List.set_cons_zero, List.set_cons_succ, i64_w, i32_w]
                  rfl
                refine pure_ (i := 6) (N := some 16) (v := ?_) (a' := ?_) #[true, true, true, true, true, true, true, false, false, true, false, false] rfl rfl (any_of HT_.out (by kernel_rfl)) (fun _ _ _ h => h) (Or.inl ⟨by rfl, ?_⟩) ?_ ?_
                rotate_left
                · intro w'
                  go_simp
                  with_reducible rfl
                rotate_left
                · simp only [Act.put, List.setIfInBounds_toArray, List.set_cons_zero, List.set_cons_succ, i64_w, i32_w]
                  rfl
                refine pure_ (i := 7) (N := some 23) (v := ?_) (a' := ?_) #[true, true, true, true, true, true, true, true, false, true, false, false] rfl rfl (any_of HT_.out (by kernel_rfl)) (fun _ _ _ h => h) (Or.inl ⟨by rfl, ?_⟩) ?_ ?_
                rotate_left
                · intro w'
                  go_simp
                  with_reducible rfl
                rotate_left
                · simp only [Act.put, List.setIfInBounds_toArray, List.set_cons_zero, List.set_cons_succ, i64_w, i32_w]
                  rfl
                refine pure_ (i := 8) (N := some 24) (v := ?_) (a' := ?_) #[true, true, true, true, true, true, true, true, true, true, false, false] rfl rfl (any_of HT_.out (by kernel_rfl)) (fun _ _ _ h => h) (Or.inl ⟨by rfl, ?_⟩) ?_ ?_
                rotate_left
                · intro w'
                  go_simp
                  with_reducible rfl
                rotate_left
                · simp only [Act.put, List.setIfInBounds_toArray, List.set_cons_zero, List.set_cons_succ, i64_w, i32_w]
                  rfl
                exact norm_ (by simp only [putAll, Act.put, List.setIfInBounds_toArray, List.set_cons_zero, List.set_cons_succ]) (hCont (v484, v491, gb493) _ ⟨hHeld, (by (with_reducible repeat (first | apply Kd.V_alloc | apply Kd.V_drewN | apply Kd.V_drew)); exact HO485.out), (by (with_reducible repeat (first | apply Kd.V_alloc | apply Kd.V_drewN | apply Kd.V_drew)); exact HO492.out), (by (with_reducible repeat (first | apply Kd.N_alloc | apply Kd.N_drewN | apply Kd.N_drew)); exact Kd.N_mono HO_3.out (fun _ hk => ⟨hk.1.1, ⟨hk.1.2, hk.2⟩⟩)), (by (with_reducible repeat (first | apply Kd.V_alloc | apply Kd.V_drewN | apply Kd.V_drew)); exact Kd.V_mono HO_482000.out (fun _ hk => ⟨hk.1.1, ⟨hk.1.2.1, ⟨hk.1.2.2, hk.2⟩⟩⟩)), (by (with_reducible repeat (first | refine blk_drewN ?_ _ | refine blk_drew ?_ | refine blk_alloc ?_ _)); exact BK481.out), (by (with_reducible repeat (first | refine blk_drewN ?_ _ | refine blk_drew ?_ | refine blk_alloc ?_ _)); exact BK493.out), GW493.out, GE493.out, NB481_493.out, NB493_481.out, (by repeat (first | (with_reducible first | exact HB.out | apply below_alloc | apply pw_below_drewN | apply below_drew1 | refine below_set ?_ GE481.out | refine below_set ?_ GE493.out) | exact HB.out))⟩)
            rintro ⟨v484, v491, gb493⟩ w31 ⟨hS_, h0_, h1_, h2_, h3_, h4_, h5_, h6_, h7_, h8_, h9_, h10_⟩
            have n0_ : Aside0 (Kd.V (Kd.int .i64) 3 w31 w.heap.size (fun k_ => (w.heap.size ≤ k_) ∧ some k_ ≠ (u3 : Value).ownBlock ∧ k_ ≠ gb481 ∧ k_ ≠ gb493) v484 t483) := ⟨h0_⟩
            have n1_ : Aside0 (Kd.V (Kd.int .i64) 3 w31 w.heap.size (fun k_ => (w.heap.size ≤ k_) ∧ some k_ ≠ (u3 : Value).ownBlock ∧ k_ ≠ gb481 ∧ k_ ≠ gb493) v491 t490) := ⟨h1_⟩
            have n2_ : Aside0 (Kd.N (Kd.slice 3 (Kd.int .i64)) 22 w31 w.heap.size (fun k_ => (w.heap.size ≤ k_) ∧ k_ ≠ gb481 ∧ k_ ≠ gb493) u3 x3_1) := ⟨h2_⟩
            have n3_ : Aside0 (Kd.V (Kd.int .i64) 3 w31 w.heap.size (fun k_ => (w.heap.size ≤ k_) ∧ some k_ ≠ (u3 : Value).ownBlock ∧ k_ ≠ gb481 ∧ k_ ≠ gb493) (.slice Ao27 x482000_1.length co27) x482000_1) := ⟨h3_⟩
            have n4_ : Aside0 (w31.heap[gb481]? = some (.cells #[.slice Ao27 x482000_1.length co27, .bool x482001_1, .int .i64 x482002_1, .bool x482003_1, .bool x482004_1] 48 (0, 0))) := ⟨h4_⟩
            have n5_ : Aside0 (w31.heap[gb493]? = some (.cells #[.slice none 0 0, .bool false, .int .i64 0, .bool false, .bool false] 48 (0, 0))) := ⟨h5_⟩
            have n6_ : Aside0 (w.heap.size ≤ gb493) := ⟨h6_⟩
            have n7_ : Aside0 (w.heap.size ≤ gb493) := ⟨h7_⟩
            have n8_ : Aside0 (gb481 ≠ gb493) := ⟨h8_⟩
            have n9_ : Aside0 (gb493 ≠ gb481) := ⟨h9_⟩
            have n10_ : Aside0 (Below w.heap.size w w31) := ⟨h10_⟩
            clear HO_3
            clear HO_482000
            clear BK481
            clear HB
            clear h0_ h1_ h2_ h3_ h4_ h5_ h6_ h7_ h8_ h9_ h10_
            have HO485 := n0_
            have HO492 := n1_
            have HO_3 := n2_
            have HO_482000 := n3_
            have BK481 := n4_
            have BK493 := n5_
            have GW493 := n6_
            have GE493 := n7_
            have NB481_493 := n8_
            have NB493_481 := n9_
            have HB := n10_
            clear n0_ n1_ n2_ n3_ n4_ n5_ n6_ n7_ n8_ n9_ n10_
            have hHeld : w31.cell? ⟨gb481, 0, none⟩ = some (.slice Ao27 x482000_1.length co27) ∧ w31.cell? ⟨gb481, 1, none⟩ = some (.bool x482001_1) ∧ w31.cell? ⟨gb481, 2, none⟩ = some (.int .i64 x482002_1) ∧ w31.cell? ⟨gb481, 3, none⟩ = some (.bool x482003_1) ∧ w31.cell? ⟨gb481, 4, none⟩ = some (.bool x482004_1) ∧ w31.cell? (ad482.add (x5_1).toNat) = some (.int .i64 (rd l0 x5_1)) := hS_
            obtain ⟨Ao32, co32, eo32⟩ := Kd.V_slice HO485.out
            (first | subst eo32 | (injection eo32 with f1_ f2_ f3_; have f4_ := f1_.symm; have f5_ := f3_.symm; clear f1_ f2_ f3_; subst f4_; subst f5_))
            refine norm_ (a' := ?_) ?_ ?_
            rotate_left
            · simp only [putAll, Act.put, List.setIfInBounds_toArray, List.set_cons_zero, List.set_cons_succ]
              rfl
            refine one_ (i := 10) (N := none) #[true, true, true, true, true, true, true, true, true, true, true, false] rfl rfl (one_of HT_.out (by kernel_rfl)) (by decide) (fun K hK => ?_)
            have hs33 : w31.cell? ⟨gb493, 0, none⟩ = some (.slice none 0 0) := (blk_cell BK493.out 0).trans rfl
            have hfs33 := blk_frozen BK493.out 0
            have hns33_0 := NB481_493.out
            have hms33_0 := NB493_481.out
            have hs34 : w31.cell? ⟨gb493, 1, none⟩ = some (.bool false) := (blk_cell BK493.out 1).trans rfl
            have hfs34 := blk_frozen BK493.out 1
            have hns34_0 := NB481_493.out
            have hms34_0 := NB493_481.out
            have hs35 : w31.cell? ⟨gb493, 2, none⟩ = some (.int .i64 0) := (blk_cell BK493.out 2).trans rfl
            have hfs35 := blk_frozen BK493.out 2
            have hns35_0 := NB481_493.out
            have hms35_0 := NB493_481.out
            have hs36 : w31.cell? ⟨gb493, 3, none⟩ = some (.bool false) := (blk_cell BK493.out 3).trans rfl
            have hfs36 := blk_frozen BK493.out 3
            have hns36_0 := NB481_493.out
            have hms36_0 := NB493_481.out
            have hs37 : w31.cell? ⟨gb493, 4, none⟩ = some (.bool false) := (blk_cell BK493.out 4).trans rfl
            have hfs37 := blk_frozen BK493.out 4
            have hns37_0 := NB481_493.out
            have hms37_0 := NB493_481.out
            refine skip_ (w1 := ?_) (by rfl) rfl ?_ ?_
            rotate_left
            · go_simp
              rfl
            refine hK.out _ _ ⟨((cell_far (p := ⟨gb493, _, none⟩) NB481_493.out _).trans (((cell_far (p := ⟨gb493, _, none⟩) NB481_493.out _).trans (((cell_far (p := ⟨gb493, _, none⟩) NB481_493.out _).trans (((cell_far (p := ⟨gb493, _, none⟩) NB481_493.out _).trans (((cell_far (p := ⟨gb493, _, none⟩) NB481_493.out _).trans (hHeld.1)))))))))), ((cell_far (p := ⟨gb493, _, none⟩) NB481_493.out _).trans (((cell_far (p := ⟨gb493, _, none⟩) NB481_493.out _).trans (((cell_far (p := ⟨gb493, _, none⟩) NB481_493.out _).trans (((cell_far (p := ⟨gb493, _, none⟩) NB481_493.out _).trans (((cell_far (p := ⟨gb493, _, none⟩) NB481_493.out _).trans (hHeld.2.1)))))))))), ((cell_far (p := ⟨gb493, _, none⟩) NB481_493.out _).trans (((cell_far (p := ⟨gb493, _, none⟩) NB481_493.out _).trans (((cell_far (p := ⟨gb493, _, none⟩) NB481_493.out _).trans (((cell_far (p := ⟨gb493, _, none⟩) NB481_493.out _).trans (((cell_far (p := ⟨gb493, _, none⟩) NB481_493.out _).trans (hHeld.2.2.1)))))))))), ((cell_far (p := ⟨gb493, _, none⟩) NB481_493.out _).trans (((cell_far (p := ⟨gb493, _, none⟩) NB481_493.out _).trans (((cell_far (p := ⟨gb493, _, none⟩) NB481_493.out _).trans (((cell_far (p := ⟨gb493, _, none⟩) NB481_493.out _).trans (((cell_far (p := ⟨gb493, _, none⟩) NB481_493.out _).trans (hHeld.2.2.2.1)))))))))), ((cell_far (p := ⟨gb493, _, none⟩) NB481_493.out _).trans (((cell_far (p := ⟨gb493, _, none⟩) NB481_493.out _).trans (((cell_far (p := ⟨gb493, _, none⟩) NB481_493.out _).trans (((cell_far (p := ⟨gb493, _, none⟩) NB481_493.out _).trans (((cell_far (p := ⟨gb493, _, none⟩) NB481_493.out _).trans (hHeld.2.2.2.2.1)))))))))), ((cell_far (p := ⟨gb493, _, none⟩) (by first | exact Nat.ne_of_lt (Nat.lt_of_lt_of_le (by have := World.block_lt_of_cell? _ _ hw482_0; first | rwa [add_block] at this | exact this) GW493.out) | (rw [add_block]; exact Nat.ne_of_lt (Nat.lt_of_lt_of_le (by have := World.block_lt_of_cell? _ _ hw482_0; first | rwa [add_block] at this | exact this) GW493.out)) | (show (Addr.add _ _).block ≠ _; rw [add_block]; exact Nat.ne_of_lt (Nat.lt_of_lt_of_le (by have := World.block_lt_of_cell? _ _ hw482_0; first | rwa [add_block] at this | exact this) GW493.out)) | (dsimp only; exact Nat.ne_of_lt (Nat.lt_of_lt_of_le (by have := World.block_lt_of_cell? _ _ hw482_0; first | rwa [add_block] at this | exact this) GW493.out))) _).trans (((cell_far (p := ⟨gb493, _, none⟩) (by first | exact Nat.ne_of_lt (Nat.lt_of_lt_of_le (by have := World.block_lt_of_cell? _ _ hw482_0; first | rwa [add_block] at this | exact this) GW493.out) | (rw [add_block]; exact Nat.ne_of_lt (Nat.lt_of_lt_of_le (by have := World.block_lt_of_cell? _ _ hw482_0; first | rwa [add_block] at this | exact this) GW493.out)) | (show (Addr.add _ _).block ≠ _; rw [add_block]; exact Nat.ne_of_lt (Nat.lt_of_lt_of_le (by have := World.block_lt_of_cell? _ _ hw482_0; first | rwa [add_block] at this | exact this) GW493.out)) | (dsimp only; exact Nat.ne_of_lt (Nat.lt_of_lt_of_le (by have := World.block_lt_of_cell? _ _ hw482_0; first | rwa [add_block] at this | exact this) GW493.out))) _).trans (((cell_far (p := ⟨gb493, _, none⟩) (by first | exact Nat.ne_of_lt (Nat.lt_of_lt_of_le (by have := World.block_lt_of_cell? _ _ hw482_0; first | rwa [add_block] at this | exact this) GW493.out) | (rw [add_block]; exact Nat.ne_of_lt (Nat.lt_of_lt_of_le (by have := World.block_lt_of_cell? _ _ hw482_0; first | rwa [add_block] at this | exact this) GW493.out)) | (show (Addr.add _ _).block ≠ _; rw [add_block]; exact Nat.ne_of_lt (Nat.lt_of_lt_of_le (by have := World.block_lt_of_cell? _ _ hw482_0; first | rwa [add_block] at this | exact this) GW493.out)) | (dsimp only; exact Nat.ne_of_lt (Nat.lt_of_lt_of_le (by have := World.block_lt_of_cell? _ _ hw482_0; first | rwa [add_block] at this | exact this) GW493.out))) _).trans (((cell_far (p := ⟨gb493, _, none⟩) (by first | exact Nat.ne_of_lt (Nat.lt_of_lt_of_le (by have := World.block_lt_of_cell? _ _ hw482_0; first | rwa [add_block] at this | exact this) GW493.out) | (rw [add_block]; exact Nat.ne_of_lt (Nat.lt_of_lt_of_le (by have := World.block_lt_of_cell? _ _ hw482_0; first | rwa [add_block] at this | exact this) GW493.out)) | (show (Addr.add _ _).block ≠ _; rw [add_block]; exact Nat.ne_of_lt (Nat.lt_of_lt_of_le (by have := World.block_lt_of_cell? _ _ hw482_0; first | rwa [add_block] at this | exact this) GW493.out)) | (dsimp only; exact Nat.ne_of_lt (Nat.lt_of_lt_of_le (by have := World.block_lt_of_cell? _ _ hw482_0; first | rwa [add_block] at this | exact this) GW493.out))) _).trans (((cell_far (p := ⟨gb493, _, none⟩) (by first | exact Nat.ne_of_lt (Nat.lt_of_lt_of_le (by have := World.block_lt_of_cell? _ _ hw482_0; first | rwa [add_block] at this | exact this) GW493.out) | (rw [add_block]; exact Nat.ne_of_lt (Nat.lt_of_lt_of_le (by have := World.block_lt_of_cell? _ _ hw482_0; first | rwa [add_block] at this | exact this) GW493.out)) | (show (Addr.add _ _).block ≠ _; rw [add_block]; exact Nat.ne_of_lt (Nat.lt_of_lt_of_le (by have := World.block_lt_of_cell? _ _ hw482_0; first | rwa [add_block] at this | exact this) GW493.out)) | (dsimp only; exact Nat.ne_of_lt (Nat.lt_of_lt_of_le (by have := World.block_lt_of_cell? _ _ hw482_0; first | rwa [add_block] at this | exact this) GW493.out))) _).trans (hHeld.2.2.2.2.2))))))))))⟩ (fun hHeld => ?_)
            clear hK K
            refine pure_ (i := 11) (N := some 7) (v := ?_) (a' := ?_) #[true, true, true, true, true, true, true, true, true, true, true, true] rfl rfl (any_of HT_.out (by kernel_rfl)) (fun _ _ _ h => h) (Or.inl ⟨by rfl, ?_⟩) ?_ ?_
            rotate_left
            · intro w'
              go_simp
              with_reducible rfl
            rotate_left
            · simp only [Act.put, List.setIfInBounds_toArray, List.set_cons_zero, List.set_cons_succ, i64_w, i32_w]
              rfl
            refine done_ (done_of HT_.out (by kernel_rfl)) ?_
            have hnb38 := NB493_481.out
            have hnc38 := NB481_493.out
            have hcz39_0 : w31.cell? ⟨gb493, 0, none⟩ = some (.slice none 0 0) := (blk_cell BK493.out 0).trans rfl
            have hcz39_1 : w31.cell? ⟨gb493, 1, none⟩ = some (.bool false) := (blk_cell BK493.out 1).trans rfl
            have hcz39_2 : w31.cell? ⟨gb493, 2, none⟩ = some (.int .i64 0) := (blk_cell BK493.out 2).trans rfl
            have hcz39_3 : w31.cell? ⟨gb493, 3, none⟩ = some (.bool false) := (blk_cell BK493.out 3).trans rfl
            have hcz39_4 : w31.cell? ⟨gb493, 4, none⟩ = some (.bool false) := (blk_cell BK493.out 4).trans rfl
            have hfz39_0 := blk_frozen BK493.out 0
            have hfz39_1 := blk_frozen BK493.out 1
            have hfz39_2 := blk_frozen BK493.out 2
            have hfz39_3 := blk_frozen BK493.out 3
            have hfz39_4 := blk_frozen BK493.out 4
            have hcz40_0 : w31.cell? ⟨gb481, 0, none⟩ = some (.slice Ao27 x482000_1.length co27) := (blk_cell BK481.out 0).trans rfl
            have hcz40_1 : w31.cell? ⟨gb481, 1, none⟩ = some (.bool x482001_1) := (blk_cell BK481.out 1).trans rfl
            have hcz40_2 : w31.cell? ⟨gb481, 2, none⟩ = some (.int .i64 x482002_1) := (blk_cell BK481.out 2).trans rfl
            have hcz40_3 : w31.cell? ⟨gb481, 3, none⟩ = some (.bool x482003_1) := (blk_cell BK481.out 3).trans rfl
            have hcz40_4 : w31.cell? ⟨gb481, 4, none⟩ = some (.bool x482004_1) := (blk_cell BK481.out 4).trans rfl
            have hfz40_0 := blk_frozen BK481.out 0
            have hfz40_1 := blk_frozen BK481.out 1
            have hfz40_2 := blk_frozen BK481.out 2
            have hfz40_3 := blk_frozen BK481.out 3
            have hfz40_4 := blk_frozen BK481.out 4
            obtain ⟨Ao41, co41, eo41⟩ := Kd.V_slice HO492.out
            subst eo41
            try go_wp2
            go_roundg k1
            case measure => have := HK1.out; omega
            case rel => exact ⟨(x3_1), (wrap64 (x5_1 + 1)), (t483), (t486), (t487), (t488), (t489), (.slice Ao32 t483.length co32), (by first | rfl | (simp; done) | (simp [*]; done)), H', ⟨by have := HK1.out; omega⟩, ⟨by (with_reducible repeat (first | apply Kd.N_alloc | apply Kd.N_drewN | apply Kd.N_drew)); exact Kd.N_mono (Kd.N_far (p := ⟨gb481, 4, none⟩) (Kd.N_far (p := ⟨gb481, 3, none⟩) (Kd.N_far (p := ⟨gb481, 2, none⟩) (Kd.N_far (p := ⟨gb481, 1, none⟩) (Kd.N_far (p := ⟨gb481, 0, none⟩) (Kd.N_far (p := ⟨gb493, 4, none⟩) (Kd.N_far (p := ⟨gb493, 3, none⟩) (Kd.N_far (p := ⟨gb493, 2, none⟩) (Kd.N_far (p := ⟨gb493, 1, none⟩) (Kd.N_far (p := ⟨gb493, 0, none⟩) (Kd.N_mono (Kd.N_mono HO_3.out (fun k_ hk => (⟨hk, hk.2.2⟩ : _ ∧ k_ ≠ gb493))) (fun k_ hk => (⟨hk, hk.1.2.1⟩ : _ ∧ k_ ≠ gb481))) (fun _ hk => hk.1.2) (.slice Ao32 t483.length co32)) (fun _ hk => hk.1.2) (.bool t486)) (fun _ hk => hk.1.2) (.int .i64 t487)) (fun _ hk => hk.1.2) (.bool t488)) (fun _ hk => hk.1.2) (.bool t489)) (fun _ hk => hk.2) (.slice Ao32 t483.length co32)) (fun _ hk => hk.2) (.bool t486)) (fun _ hk => hk.2) (.int .i64 t487)) (fun _ hk => hk.2) (.bool t488)) (fun _ hk => hk.2) (.bool t489)) (fun _ hk => ⟨hk.1.1.1, hk.1.1.2.1⟩)⟩, ⟨by (with_reducible repeat (first | apply Kd.V_alloc | apply Kd.V_drewN | apply Kd.V_drew)); exact Kd.V_mono (Kd.V_far (p := ⟨gb481, 4, none⟩) (Kd.V_far (p := ⟨gb481, 3, none⟩) (Kd.V_far (p := ⟨gb481, 2, none⟩) (Kd.V_far (p := ⟨gb481, 1, none⟩) (Kd.V_far (p := ⟨gb481, 0, none⟩) (Kd.V_far (p := ⟨gb493, 4, none⟩) (Kd.V_far (p := ⟨gb493, 3, none⟩) (Kd.V_far (p := ⟨gb493, 2, none⟩) (Kd.V_far (p := ⟨gb493, 1, none⟩) (Kd.V_far (p := ⟨gb493, 0, none⟩) (Kd.V_mono (Kd.V_mono HO485.out (fun k_ hk => (⟨hk, hk.2.2.2⟩ : _ ∧ k_ ≠ gb493))) (fun k_ hk => (⟨hk, hk.1.2.2.1⟩ : _ ∧ k_ ≠ gb481))) (fun _ hk => hk.1.2) (.slice Ao32 t483.length co32)) (fun _ hk => hk.1.2) (.bool t486)) (fun _ hk => hk.1.2) (.int .i64 t487)) (fun _ hk => hk.1.2) (.bool t488)) (fun _ hk => hk.1.2) (.bool t489)) (fun _ hk => hk.2) (.slice Ao32 t483.length co32)) (fun _ hk => hk.2) (.bool t486)) (fun _ hk => hk.2) (.int .i64 t487)) (fun _ hk => hk.2) (.bool t488)) (fun _ hk => hk.2) (.bool t489)) (fun _ hk => ⟨hk.1.1.1, ⟨hk.1.1.2.1, hk.1.1.2.2.1⟩⟩)⟩, ⟨by (with_reducible repeat (first | refine blk_drewN ?_ _ | refine blk_drew ?_ | refine blk_alloc ?_ _)); refine blk_put (cs := #[.slice Ao32 t483.length co32, .bool t486, .int .i64 t487, .bool t488, .bool x482004_1]) ?_ 4 _ rfl; (with_reducible repeat (first | refine blk_drewN ?_ _ | refine blk_drew ?_ | refine blk_alloc ?_ _)); refine blk_put (cs := #[.slice Ao32 t483.length co32, .bool t486, .int .i64 t487, .bool x482003_1, .bool x482004_1]) ?_ 3 _ rfl; (with_reducible repeat (first | refine blk_drewN ?_ _ | refine blk_drew ?_ | refine blk_alloc ?_ _)); refine blk_put (cs := #[.slice Ao32 t483.length co32, .bool t486, .int .i64 x482002_1, .bool x482003_1, .bool x482004_1]) ?_ 2 _ rfl; (with_reducible repeat (first | refine blk_drewN ?_ _ | refine blk_drew ?_ | refine blk_alloc ?_ _)); refine blk_put (cs := #[.slice Ao32 t483.length co32, .bool x482001_1, .int .i64 x482002_1, .bool x482003_1, .bool x482004_1]) ?_ 1 _ rfl; (with_reducible repeat (first | refine blk_drewN ?_ _ | refine blk_drew ?_ | refine blk_alloc ?_ _)); refine blk_put (cs := #[.slice Ao27 x482000_1.length co27, .bool x482001_1, .int .i64 x482002_1, .bool x482003_1, .bool x482004_1]) ?_ 0 _ rfl; (with_reducible repeat (first | refine blk_drewN ?_ _ | refine blk_drew ?_ | refine blk_alloc ?_ _)); refine blk_far ?_ NB481_493.out _; (with_reducible repeat (first | refine blk_drewN ?_ _ | refine blk_drew ?_ | refine blk_alloc ?_ _)); refine blk_far ?_ NB481_493.out _; (with_reducible repeat (first | refine blk_drewN ?_ _ | refine blk_drew ?_ | refine blk_alloc ?_ _)); refine blk_far ?_ NB481_493.out _; (with_reducible repeat (first | refine blk_drewN ?_ _ | refine blk_drew ?_ | refine blk_alloc ?_ _)); refine blk_far ?_ NB481_493.out _; (with_reducible repeat (first | refine blk_drewN ?_ _ | refine blk_drew ?_ | refine blk_alloc ?_ _)); refine blk_far ?_ NB481_493.out _; (with_reducible repeat (first | refine blk_drewN ?_ _ | refine blk_drew ?_ | refine blk_alloc ?_ _)); exact BK481.out⟩, ⟨by repeat (first | (with_reducible first | exact HB.out | apply below_alloc | apply pw_below_drewN | apply below_drew1 | refine below_set ?_ GE481.out | refine below_set ?_ GE493.out) | exact HB.out)⟩⟩
        · rw [if_neg c5] at H
          exact absurd H (by simp)
      · rw [if_neg c4] at H
        have c4b0 : decide (x5_1 < (l0.length : Int)) = false := decide_eq_false c4
        clear c4
        replace H := Option.bind_eq_some_iff.mp H
        obtain ⟨t497, A420, H⟩ := H
        replace H : (if (t497.length : Int) > 0 then (if x3_1.length < 5864062014805 then (some (x3_1 ++ [t497])) else (none)) else (some x3_1)) = some r := H
        have A42 := Aside0.mk A420
        clear A420
        by_cases c43 : (t497.length : Int) > 0
        · rw [if_pos c43] at H
          have c43b0 : decide (0 < (t497.length : Int)) = true := decide_eq_true c43
          have c43b1 : decide (0 < t497.length) = true := decide_eq_true (by omega)
          clear c43
          by_cases c44 : x3_1.length < 5864062014805
          · rw [if_pos c44] at H
            have LMc44 := Aside0.mk c44
            clear c44
            obtain ⟨y500, hy500⟩ : ∃ y_ : List (List Int), y_ = (x3_1 ++ [t497]) := ⟨_, rfl⟩
            replace H : (some y500) = some r := by first | (rw [hy500]; with_reducible exact H) | (have H2_ := (Option.bind_some _ _).symm.trans H; rw [hy500]; with_reducible exact H2_) | (have H2_ := (Option.bind_some _ _).symm.trans H; with_reducible exact H2_) | with_reducible exact H | (rw [hy500]; exact H) | exact H
            have Ny500 := Aside0.mk hy500
            clear hy500
            obtain rfl := Option.some.inj H
            have hcz45_0 : wr.cell? ⟨gb481, 0, none⟩ = some (u482000) := (blk_cell BK481.out 0).trans rfl
            have hcz45_1 : wr.cell? ⟨gb481, 1, none⟩ = some (.bool x482001_1) := (blk_cell BK481.out 1).trans rfl
            have hcz45_2 : wr.cell? ⟨gb481, 2, none⟩ = some (.int .i64 x482002_1) := (blk_cell BK481.out 2).trans rfl
            have hcz45_3 : wr.cell? ⟨gb481, 3, none⟩ = some (.bool x482003_1) := (blk_cell BK481.out 3).trans rfl
            have hcz45_4 : wr.cell? ⟨gb481, 4, none⟩ = some (.bool x482004_1) := (blk_cell BK481.out 4).trans rfl
            have hfz45_0 := blk_frozen BK481.out 0
            have hfz45_1 := blk_frozen BK481.out 1
            have hfz45_2 := blk_frozen BK481.out 2
            have hfz45_3 := blk_frozen BK481.out 3
            have hfz45_4 := blk_frozen BK481.out 4
            obtain ⟨Ao46, co46, eo46⟩ := Kd.V_slice HO_482000.out
            subst eo46
            go_wp2_with (first | ((with_reducible refine gate_callee (f := 37) rfl ?_); refine goesL_ (some 34) rfl rfl Try.func37 (by kernel_rfl) rfl #[.agg #[.slice Ao46 x482000_1.length co46, .bool x482001_1, .int .i64 x482002_1, .bool x482003_1, .bool x482004_1]] rfl (by (try simp only [List.map_toArray, List.map_cons, List.map_nil]); first | done | rfl | (simp only [List.length_drop, List.length_take]; rfl)) ?_; (with_reducible refine (pentroughref12_End.calls (fun k_ => ((w.heap.size ≤ k_) ∧ (some k_ ≠ (u3 : Value).ownBlock ∧ k_ ≠ gb481))) _ _ x482000_1 x482001_1 x482002_1 x482003_1 x482004_1 t497 _ ?side1 A42.out).mono ?_); (case side1 => exact HO_482000.out); rintro e w47 ⟨v498, rfl, ho0, hb⟩; refine ⟨_, rfl, ?_⟩; have n0_ := Aside0.mk (Kd.N_below (by (with_reducible repeat (first | apply Kd.N_alloc | apply Kd.N_drewN | apply Kd.N_drew)); exact HO_3.out) hb); have n1_ := Aside0.mk (Kd.V_below (by (with_reducible repeat (first | apply Kd.V_alloc | apply Kd.V_drewN | apply Kd.V_drew)); exact HO_482000.out) hb); have n2_ := Aside0.mk (Kd.V_lower (Kd.V_mono (ok' := fun k_ => (w.heap.size ≤ k_) ∧ some k_ ≠ (u3 : Value).ownBlock ∧ k_ ≠ gb481) ho0 (fun k_ hk_ => ⟨Or.elim hk_ (fun hs_ => hs_.1) (fun hn_ => (Nat.le_trans (below_size (by repeat (first | (with_reducible first | exact HB.out | apply below_alloc | apply pw_below_drewN | apply below_drew1 | refine below_set ?_ GE481.out) | exact HB.out))) hn_)), Or.elim hk_ (fun hs_ => hs_.2.1) (fun hn_ => (Kd.fresh' (Kd.N_lt (by (with_reducible repeat (first | apply Kd.N_alloc | apply Kd.N_drewN | apply Kd.N_drew)); exact HO_3.out)) k_ hn_)), Or.elim hk_ (fun hs_ => hs_.2.2) (fun hn_ => (Kd.freshB (g := gb481) (o := .cells #[.slice Ao46 x482000_1.length co46, .bool x482001_1, .int .i64 x482002_1, .bool x482003_1, .bool x482004_1] 48 (0, 0)) (by (with_reducible repeat (first | refine blk_drewN ?_ _ | refine blk_drew ?_ | refine blk_alloc ?_ _)); exact BK481.out) k_ hn_))⟩)) (below_size (by repeat (first | (with_reducible first | exact HB.out | apply below_alloc | apply pw_below_drewN | apply below_drew1 | refine below_set ?_ GE481.out) | exact HB.out)))); have n3_ := Aside0.mk (blk_below (g := gb481) (o := .cells #[.slice Ao46 x482000_1.length co46, .bool x482001_1, .int .i64 x482002_1, .bool x482003_1, .bool x482004_1] 48 (0, 0)) (by (with_reducible repeat (first | refine blk_drewN ?_ _ | refine blk_drew ?_ | refine blk_alloc ?_ _)); exact BK481.out) hb); have n4_ := Aside0.mk (below_step (by repeat (first | (with_reducible first | exact HB.out | apply below_alloc | apply pw_below_drewN | apply below_drew1 | refine below_set ?_ GE481.out) | exact HB.out)) hb); clear HO_3; clear HO_482000; clear BK481; clear HB; have HO_3 := n0_; have HO_482000 := n1_; have HO499 := n2_; have BK481 := n3_; have HB := n4_; clear n0_ n1_ n2_ n3_ n4_; (try clear hb); (try clear hb2); (try clear hk); (try clear hi); (try clear ho0); obtain ⟨Ao48, co48, eo48⟩ := Kd.V_slice HO499.out; subst eo48) | ((with_reducible refine gate_builtin (b := .append) (xs := #[.tmp 38, .tmp 40]) rfl ?_); at_builtin; refine Kd.N_append (Kd.slice 3 (Kd.int .i64)) (w0 := w) w.heap.size rfl (.tmp 38) (.tmp 40) 41 22 (.slice none 0 0) 24 rfl Try.underlying41 info22 rfl (by decide) (by omega) u3 x3_1 t497 [.slice Ao48 t497.length co48] (fun k_ => (w.heap.size ≤ k_) ∧ k_ ≠ gb481) (fun k_ => ((fun k_ => (w.heap.size ≤ k_) ∧ k_ ≠ gb481)) k_ ∧ some k_ ≠ (u3 : Value).ownBlock) rfl rfl ?aP (fun _ hk => hk) ?aF ?aO ?aB ?aS ?aL ?_; (case aP => exact (Kd.FK_slice_mk (Kd.V_reads' (Kd.V_mono (ok' := (fun k_ => ((fun k_ => (w.heap.size ≤ k_) ∧ k_ ≠ gb481)) k_ ∧ some k_ ≠ (u3 : Value).ownBlock)) (HO499.out) (fun k_ hk => ⟨⟨hk.1, hk.2.2⟩, hk.2.1⟩))).2.1 (Kd.V_F (Kd.V_mono (ok' := (fun k_ => ((fun k_ => (w.heap.size ≤ k_) ∧ k_ ≠ gb481)) k_ ∧ some k_ ≠ (u3 : Value).ownBlock)) (HO499.out) (fun k_ hk => ⟨⟨hk.1, hk.2.2⟩, hk.2.1⟩))))); (case aB => exact (by repeat (first | (with_reducible first | exact HB.out | apply below_alloc | apply pw_below_drewN | apply below_drew1 | refine below_set ?_ GE481.out) | exact HB.out))); (case aF => exact (fun k_ hk => ⟨(Nat.le_trans (below_size (by repeat (first | (with_reducible first | exact HB.out | apply below_alloc | apply pw_below_drewN | apply below_drew1 | refine below_set ?_ GE481.out) | exact HB.out))) hk), Kd.freshB (g := gb481) (o := .cells #[.slice Ao46 x482000_1.length co46, .bool x482001_1, .int .i64 x482002_1, .bool x482003_1, .bool x482004_1] 48 (0, 0)) (by (with_reducible repeat (first | refine blk_drewN ?_ _ | refine blk_drew ?_ | refine blk_alloc ?_ _)); exact BK481.out) k_ hk⟩)); (case aO => exact (by (with_reducible repeat (first | apply Kd.N_alloc | apply Kd.N_drewN | apply Kd.N_drew)); exact HO_3.out)); (case aS => exact (below_size (by repeat (first | (with_reducible first | exact HB.out | apply below_alloc | apply pw_below_drewN | apply below_drew1 | refine below_set ?_ GE481.out) | exact HB.out)))); (case aL => have := LMc44.out; omega); intro v501 w49 ho hb hg hat; rw [← Ny500.out] at ho; have n0_ := Aside0.mk (Kd.V_afterv (ok := (fun k_ => (w.heap.size ≤ k_) ∧ k_ ≠ gb481)) (by (with_reducible repeat (first | apply Kd.V_alloc | apply Kd.V_drewN | apply Kd.V_drew)); exact Kd.V_mono HO_482000.out (fun _ hk => ⟨⟨hk.1, hk.2.2⟩, hk.2.1⟩)) hg hat); have n1_ := Aside0.mk (blk_grown (g := gb481) (o := .cells #[.slice Ao46 x482000_1.length co46, .bool x482001_1, .int .i64 x482002_1, .bool x482003_1, .bool x482004_1] 48 (0, 0)) (by (with_reducible repeat (first | refine blk_drewN ?_ _ | refine blk_drew ?_ | refine blk_alloc ?_ _)); exact BK481.out) hg (Kd.N_ne HO_3.out BK481.out (by decide))); have n2_ := Aside0.mk (Kd.V_afterv (ok := (fun k_ => (w.heap.size ≤ k_) ∧ k_ ≠ gb481)) (by (with_reducible repeat (first | apply Kd.V_alloc | apply Kd.V_drewN | apply Kd.V_drew)); exact Kd.V_mono HO499.out (fun _ hk => ⟨⟨hk.1, hk.2.2⟩, hk.2.1⟩)) hg hat); have n3_ := Aside0.mk (hb); have n4_ := Aside0.mk (ho); clear HO_482000; clear BK481; clear HO499; clear HB; clear HO_3; have HO_482000 := n0_; have BK481 := n1_; have HO499 := n2_; have HB := n3_; have HO502 := n4_; clear n0_ n1_ n2_ n3_ n4_; clear ho hb hg hat))
            go_ret
            exact ⟨_, by first | rfl | (simp [errW_none, errW_some] <;> rfl) | (simp [*, errW_none, errW_some] <;> rfl), by (with_reducible repeat (first | apply Kd.N_alloc | apply Kd.N_drewN | apply Kd.N_drew)); exact Kd.N_mono HO502.out (fun _ hk => hk.1), by repeat (first | (with_reducible first | exact HB.out | apply below_alloc | apply pw_below_drewN | apply below_drew1 | refine below_set ?_ GE481.out) | exact HB.out)⟩
          · rw [if_neg c44] at H
            exact absurd H (by simp)
        · rw [if_neg c43] at H
          have c43b0 : decide (0 < (t497.length : Int)) = false := decide_eq_false c43
          have c43b1 : decide (0 < t497.length) = false := decide_eq_false (by omega)
          clear c43
          obtain rfl := Option.some.inj H
          have hcz50_0 : wr.cell? ⟨gb481, 0, none⟩ = some (u482000) := (blk_cell BK481.out 0).trans rfl
          have hcz50_1 : wr.cell? ⟨gb481, 1, none⟩ = some (.bool x482001_1) := (blk_cell BK481.out 1).trans rfl
          have hcz50_2 : wr.cell? ⟨gb481, 2, none⟩ = some (.int .i64 x482002_1) := (blk_cell BK481.out 2).trans rfl
          have hcz50_3 : wr.cell? ⟨gb481, 3, none⟩ = some (.bool x482003_1) := (blk_cell BK481.out 3).trans rfl
          have hcz50_4 : wr.cell? ⟨gb481, 4, none⟩ = some (.bool x482004_1) := (blk_cell BK481.out 4).trans rfl
          have hfz50_0 := blk_frozen BK481.out 0
          have hfz50_1 := blk_frozen BK481.out 1
          have hfz50_2 := blk_frozen BK481.out 2
          have hfz50_3 := blk_frozen BK481.out 3
          have hfz50_4 := blk_frozen BK481.out 4
          obtain ⟨Ao51, co51, eo51⟩ := Kd.V_slice HO_482000.out
          subst eo51
          go_wp2_with (first | ((with_reducible refine gate_callee (f := 37) rfl ?_); refine goesL_ (some 34) rfl rfl Try.func37 (by kernel_rfl) rfl #[.agg #[.slice Ao51 x482000_1.length co51, .bool x482001_1, .int .i64 x482002_1, .bool x482003_1, .bool x482004_1]] rfl (by (try simp only [List.map_toArray, List.map_cons, List.map_nil]); first | done | rfl | (simp only [List.length_drop, List.length_take]; rfl)) ?_; (with_reducible refine (pentroughref12_End.calls (fun k_ => ((w.heap.size ≤ k_) ∧ (some k_ ≠ (u3 : Value).ownBlock ∧ k_ ≠ gb481))) _ _ x482000_1 x482001_1 x482002_1 x482003_1 x482004_1 t497 _ ?side1 A42.out).mono ?_); (case side1 => exact HO_482000.out); rintro e w52 ⟨v498, rfl, ho0, hb⟩; refine ⟨_, rfl, ?_⟩; have n0_ := Aside0.mk (Kd.N_below (by (with_reducible repeat (first | apply Kd.N_alloc | apply Kd.N_drewN | apply Kd.N_drew)); exact HO_3.out) hb); have n1_ := Aside0.mk (Kd.V_below (by (with_reducible repeat (first | apply Kd.V_alloc | apply Kd.V_drewN | apply Kd.V_drew)); exact HO_482000.out) hb); have n2_ := Aside0.mk (Kd.V_lower (Kd.V_mono (ok' := fun k_ => (w.heap.size ≤ k_) ∧ some k_ ≠ (u3 : Value).ownBlock ∧ k_ ≠ gb481) ho0 (fun k_ hk_ => ⟨Or.elim hk_ (fun hs_ => hs_.1) (fun hn_ => (Nat.le_trans (below_size (by repeat (first | (with_reducible first | exact HB.out | apply below_alloc | apply pw_below_drewN | apply below_drew1 | refine below_set ?_ GE481.out) | exact HB.out))) hn_)), Or.elim hk_ (fun hs_ => hs_.2.1) (fun hn_ => (Kd.fresh' (Kd.N_lt (by (with_reducible repeat (first | apply Kd.N_alloc | apply Kd.N_drewN | apply Kd.N_drew)); exact HO_3.out)) k_ hn_)), Or.elim hk_ (fun hs_ => hs_.2.2) (fun hn_ => (Kd.freshB (g := gb481) (o := .cells #[.slice Ao51 x482000_1.length co51, .bool x482001_1, .int .i64 x482002_1, .bool x482003_1, .bool x482004_1] 48 (0, 0)) (by (with_reducible repeat (first | refine blk_drewN ?_ _ | refine blk_drew ?_ | refine blk_alloc ?_ _)); exact BK481.out) k_ hn_))⟩)) (below_size (by repeat (first | (with_reducible first | exact HB.out | apply below_alloc | apply pw_below_drewN | apply below_drew1 | refine below_set ?_ GE481.out) | exact HB.out)))); have n3_ := Aside0.mk (blk_below (g := gb481) (o := .cells #[.slice Ao51 x482000_1.length co51, .bool x482001_1, .int .i64 x482002_1, .bool x482003_1, .bool x482004_1] 48 (0, 0)) (by (with_reducible repeat (first | refine blk_drewN ?_ _ | refine blk_drew ?_ | refine blk_alloc ?_ _)); exact BK481.out) hb); have n4_ := Aside0.mk (below_step (by repeat (first | (with_reducible first | exact HB.out | apply below_alloc | apply pw_below_drewN | apply below_drew1 | refine below_set ?_ GE481.out) | exact HB.out)) hb); clear HO_3; clear HO_482000; clear BK481; clear HB; have HO_3 := n0_; have HO_482000 := n1_; have HO499 := n2_; have BK481 := n3_; have HB := n4_; clear n0_ n1_ n2_ n3_ n4_; (try clear hb); (try clear hb2); (try clear hk); (try clear hi); (try clear ho0); obtain ⟨Ao53, co53, eo53⟩ := Kd.V_slice HO499.out; subst eo53))
          go_ret
          exact ⟨_, by first | rfl | (simp [errW_none, errW_some] <;> rfl) | (simp [*, errW_none, errW_some] <;> rfl), by (with_reducible repeat (first | apply Kd.N_alloc | apply Kd.N_drewN | apply Kd.N_drew)); exact Kd.N_mono HO_3.out (fun _ hk => hk.1), by repeat (first | (with_reducible first | exact HB.out | apply below_alloc | apply pw_below_drewN | apply below_drew1 | refine below_set ?_ GE481.out) | exact HB.out)⟩

end Go.Proofs.Ytcabijajjceghaa.G
