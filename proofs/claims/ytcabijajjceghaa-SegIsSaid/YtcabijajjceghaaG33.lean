-- PRINTED by print.py (a twelfth state) out of the translation. Not trusted: Lean checks it.
import Derived.Test.YtcabijajjceghaaG0
import Derived.Test.YtcabijajjceghaaG28
import Derived.Test.YtcabijajjceghaaHNext
namespace Go.Proofs.Ytcabijajjceghaa.G
open Go.RowKit Go.Proofs.YtcabijajjceghaaW.PrintWords Go.Proofs.YtcabijajjceghaaW.PrintLast Go.Proofs.YtcabijajjceghaaW.PrintMore
attribute [local go_sem] max2_int min2_int max_two min_two max_three min_three max_four min_four   -- for this text's walks alone
set_option linter.unusedVariables false
set_option linter.unusedSimpArgs false

/-! ### clus_Cuts: function 40 -/
def clus_Cuts.l0 : Nat → List Bool → List Int → Int → Int → Bool → Int → Bool → Bool → Option (List Bool)
  | 0, _, _, _, _, _, _, _, _ => none
  | k + 1, x4, x7, x8, x9, x567000, x567001, x567002, x567003 => if x9 < x8 then (if 0 ≤ x9 then (if x9 < (x7.length : Int) then ((clus_Ends.f k x567000 x567001 x567002 x567003 (rd x7 x9)).bind fun t568 => (if x4.length < 140737488355328 then ((clus_Next.f x567000 x567001 x567002 x567003 (rd x7 x9)).bind fun bt572 => (clus_Cuts.l0 k (x4 ++ [t568]) x7 x8 (wrap64 (x9 + 1)) bt572.1 bt572.2.1 bt572.2.2.1 bt572.2.2.2)) else (none))) else (none)) else (none)) else (some x4)
def clus_Cuts.f (k : Nat) (l0 : List Int) : Option (List Bool) := clus_Cuts.l0 k ([] : List Bool) l0 (l0.length : Int) 0 false 0 false false
theorem clus_Cuts.mono_l : ∀ k, (∀ y0 y1 y2 y3 y4 y5 y6 y7, LeO (clus_Cuts.l0 k y0 y1 y2 y3 y4 y5 y6 y7) (clus_Cuts.l0 (k + 1) y0 y1 y2 y3 y4 y5 y6 y7))
  | 0 => fun _ _ _ _ _ _ _ _ r h => by simp [clus_Cuts.l0] at h
  | k + 1 => by
    have ih0 := clus_Cuts.mono_l k
    · intro y0 y1 y2 y3 y4 y5 y6 y7
      unfold clus_Cuts.l0
      repeat' first
      | (with_reducible exact ih0 _ _ _ _ _ _ _ _)
      | (with_reducible exact clus_Ends.mono _ _ _ _ _ _)
      | (with_reducible exact LeO.refl _)
      | (with_reducible exact LeO.none _)
      | (with_reducible refine LeO.ite ?_ ?_)
      | (with_reducible refine LeO.bind ?_ (fun _ => ?_))
      | exact ih0 _ _ _ _ _ _ _ _
      | exact clus_Ends.mono _ _ _ _ _ _
      | exact LeO.none _
      | refine LeO.ite ?_ ?_
      | refine LeO.bind ?_ (fun _ => ?_)
theorem clus_Cuts.mono : ∀ a0 k, LeO (clus_Cuts.f k a0) (clus_Cuts.f (k + 1) a0) := by
  intro a0 k
  have ih0 := clus_Cuts.mono_l k
  unfold clus_Cuts.f
  repeat' first
      | (with_reducible exact ih0 _ _ _ _ _ _ _ _)
      | (with_reducible exact clus_Ends.mono _ _ _ _ _ _)
      | (with_reducible exact LeO.refl _)
      | (with_reducible exact LeO.none _)
      | (with_reducible refine LeO.ite ?_ ?_)
      | (with_reducible refine LeO.bind ?_ (fun _ => ?_))
      | exact ih0 _ _ _ _ _ _ _ _
      | exact clus_Ends.mono _ _ _ _ _ _
      | exact LeO.none _
      | refine LeO.ite ?_ ?_
      | refine LeO.bind ?_ (fun _ => ?_)
set_option maxHeartbeats 8000000 in
set_option maxRecDepth 100000 in
theorem clus_Cuts.calls (k : Nat) (A0 : Option Addr) (c0 : Nat) (l0 : List Int) (r : List Bool) (w : World) (hr0 : Kd.C (Kd.int .i64) w A0 l0.length l0) (hc0 : l0.length ≤ c0) (h : clus_Cuts.f k l0 = some r) :
    Calls Try.prog 40 #[.slice A0 l0.length c0] w fun e w' => ∃ v0_ : Value, e = .returned (v0_) ∧ Kd.R Kd.bool 4 w' w.heap.size (fun _ => True) v0_ r ∧ Below w.heap.size w w' := by
  have hu49 := Try.underlying49
  have HR0 := Aside0.mk hr0
  have HC0 := Aside0.mk hc0
  clear hr0 hc0
  have HB := Aside0.mk (Below.refl w.heap.size w)
  have H : (clus_Cuts.l0 k ([] : List Bool) l0 (l0.length : Int) 0 false 0 false false) = some r := h
  clear h
  have H' := Aside0.mk H
  clear H
  go_enter Try.func40, Try.ntmps40
  go_wp2_with (first | ((with_reducible refine gate_dst (N := 3) rfl ?_); refine box_event ?hg (N := 3) ?hd (cs := #[.bool false, .int .i64 0, .bool false, .bool false]) (t := 49) ?hr ?_; (case hd => rfl); (case hg => rfl); (case hr => first | (go_simp; done) | (go_simp; rfl)); intro gb566 hg w2 hbox hb; have n0_ := Aside0.mk (below_step (by repeat (first | (with_reducible first | exact HB.out | apply below_alloc | apply pw_below_drewN | apply below_drew1) | exact HB.out)) hb); have n1_ := Aside0.mk (hbox); have n2_ := Aside0.mk ((by rw [hg]; exact (below_size (by repeat (first | (with_reducible first | exact HB.out | apply below_alloc | apply pw_below_drewN | apply below_drew1) | exact HB.out))) : w.heap.size ≤ gb566)); have n3_ := Aside0.mk ((by rw [hg]; exact (below_size (by repeat (first | (with_reducible first | exact HB.out | apply below_alloc | apply pw_below_drewN | apply below_drew1) | exact HB.out))) : w.heap.size ≤ gb566)); clear HB; have HB := n0_; have BK566 := n1_; have GW566 := n2_; have GE566 := n3_; clear n0_ n1_ n2_ n3_; clear hb hbox hg))
  go_loopg [4, 9] k (fun kq v4 v9 w' => ∃ (x4_1 : List Bool) (x9_1 : Int) (x567000_1 : Bool) (x567001_1 : Int) (x567002_1 : Bool) (x567003_1 : Bool), v9 = .int .i64 x9_1 ∧ Aside0 (clus_Cuts.l0 kq x4_1 l0 (l0.length : Int) x9_1 x567000_1 x567001_1 x567002_1 x567003_1 = some r) ∧ Aside0 (kq ≤ k) ∧ Aside0 (Kd.R Kd.bool 4 w' w.heap.size (fun _ => True) v4 x4_1) ∧ Aside0 (w'.heap[gb566]? = some (.cells #[.bool x567000_1, .int .i64 x567001_1, .bool x567002_1, .bool x567003_1] 49 (0, 0))) ∧ Aside0 (Below w.heap.size w w'))
  case atStart => exact ⟨(([] : List Bool)), (0), (false), (0), (false), (false), (by first | rfl | (simp; done) | (simp [*]; done)), H', ⟨Nat.le_refl _⟩, ⟨by first | exact Kd.R_nil _ _ _ _ _ | exact Kd.N_nil _ _ _ _ _ | exact Kd.V_nil _ _ _ _ _ | exact Kd.Q_nil _ _ _ _ _ | exact Kd.S_nil _ _ _ _ _⟩, ⟨by (with_reducible repeat (first | refine blk_drewN ?_ _ | refine blk_drew ?_ | refine blk_alloc ?_ _)); exact BK566.out⟩, ⟨by repeat (first | (with_reducible first | exact HB.out | apply below_alloc | apply pw_below_drewN | apply below_drew1 | refine below_set ?_ GE566.out) | exact HB.out)⟩⟩
  case round =>
    clear H'
    try clear p2
    obtain ⟨x4_1, x9_1, x567000_1, x567001_1, x567002_1, x567003_1, rfl, HA, HK1, HO_4, BK566, HB⟩ := hrel
    cases gk with
    | zero => exact absurd HA.out (by simp [clus_Cuts.l0])
    | succ k1 =>
      have H := HA.out
      clear HA
      simp only [clus_Cuts.l0] at H
      by_cases c3 : x9_1 < (l0.length : Int)
      · rw [if_pos c3] at H
        have c3b0 : decide (x9_1 < (l0.length : Int)) = true := decide_eq_true c3
        clear c3
        by_cases c4 : 0 ≤ x9_1
        · rw [if_pos c4] at H
          have c4b0 : decide (0 ≤ x9_1) = true := decide_eq_true c4
          clear c4
          by_cases c5 : x9_1 < (l0.length : Int)
          · rw [if_pos c5] at H
            have c5b0 : decide (x9_1 < (l0.length : Int)) = true := decide_eq_true c5
            clear c5
            replace H := Option.bind_eq_some_iff.mp H
            obtain ⟨t568, A60, H⟩ := H
            replace H : (if x4_1.length < 140737488355328 then ((clus_Next.f x567000_1 x567001_1 x567002_1 x567003_1 (rd l0 x9_1)).bind fun bt572 => (clus_Cuts.l0 k1 (x4_1 ++ [t568]) l0 (l0.length : Int) (wrap64 (x9_1 + 1)) bt572.1 bt572.2.1 bt572.2.2.1 bt572.2.2.2)) else (none)) = some r := H
            have A6 := Aside0.mk A60
            clear A60
            by_cases c7 : x4_1.length < 140737488355328
            · rw [if_pos c7] at H
              have LMc7 := Aside0.mk c7
              clear c7
              obtain ⟨y569, hy569⟩ : ∃ y_ : List Bool, y_ = (x4_1 ++ [t568]) := ⟨_, rfl⟩
              replace H : ((clus_Next.f x567000_1 x567001_1 x567002_1 x567003_1 (rd l0 x9_1)).bind fun bt572 => (clus_Cuts.l0 k1 y569 l0 (l0.length : Int) (wrap64 (x9_1 + 1)) bt572.1 bt572.2.1 bt572.2.2.1 bt572.2.2.2)) = some r := by first | (rw [hy569]; with_reducible exact H) | (have H2_ := (Option.bind_some _ _).symm.trans H; rw [hy569]; with_reducible exact H2_) | (have H2_ := (Option.bind_some _ _).symm.trans H; with_reducible exact H2_) | with_reducible exact H | (rw [hy569]; exact H) | exact H
              have Ny569 := Aside0.mk hy569
              clear hy569
              replace H := Option.bind_eq_some_iff.mp H
              obtain ⟨⟨t572, t573, t574, t575⟩, A80, H⟩ := H
              replace H : (clus_Cuts.l0 k1 y569 l0 (l0.length : Int) (wrap64 (x9_1 + 1)) t572 t573 t574 t575) = some r := H
              have A8 := Aside0.mk A80
              clear A80
              have H' := Aside0.mk H
              clear H
              have p567 : 0 ≤ (x9_1 : Int) := of_decide_eq_true (by first | (with_reducible assumption) | assumption)
              have q567 : x9_1 < (l0.length : Int) := of_decide_eq_true (by first | (with_reducible assumption) | assumption)
              obtain ⟨ad567, e567, hx567_0⟩ := Kd.at_int HR0.out x9_1 p567 q567
              cases e567
              replace hx567_0 := (HB.out.cell (World.block_lt_of_cell? w _ hx567_0)).trans hx567_0
              replace p567 := eq_true p567
              replace q567 := eq_true q567
              have hcz9_0 : wr.cell? ⟨gb566, 0, none⟩ = some (.bool x567000_1) := (blk_cell BK566.out 0).trans rfl
              have hcz9_1 : wr.cell? ⟨gb566, 1, none⟩ = some (.int .i64 x567001_1) := (blk_cell BK566.out 1).trans rfl
              have hcz9_2 : wr.cell? ⟨gb566, 2, none⟩ = some (.bool x567002_1) := (blk_cell BK566.out 2).trans rfl
              have hcz9_3 : wr.cell? ⟨gb566, 3, none⟩ = some (.bool x567003_1) := (blk_cell BK566.out 3).trans rfl
              have hfz9_0 := blk_frozen BK566.out 0
              have hfz9_1 := blk_frozen BK566.out 1
              have hfz9_2 := blk_frozen BK566.out 2
              have hfz9_3 := blk_frozen BK566.out 3
              go_wp2_with (first | ((with_reducible refine gate_callee (f := 59) rfl ?_); refine goesL_ (some 16) rfl rfl Try.func59 (by kernel_rfl) rfl #[.agg #[.bool x567000_1, .int .i64 x567001_1, .bool x567002_1, .bool x567003_1], .int .i64 (rd l0 x9_1)] rfl (by (try simp only [List.map_toArray, List.map_cons, List.map_nil]); first | done | rfl | (simp only [List.length_drop, List.length_take]; rfl)) ?_; (with_reducible refine (clus_Ends.calls k1 x567000_1 x567001_1 x567002_1 x567003_1 (rd l0 x9_1) t568 _ A6.out).mono ?_); rintro e w10 ⟨rfl, hb⟩; refine ⟨_, rfl, ?_⟩; have n0_ := Aside0.mk (Kd.R_below (by (with_reducible repeat (first | apply Kd.R_alloc | apply Kd.R_drewN | apply Kd.R_drew)); exact HO_4.out) hb); have n1_ := Aside0.mk (blk_below (g := gb566) (o := .cells #[.bool x567000_1, .int .i64 x567001_1, .bool x567002_1, .bool x567003_1] 49 (0, 0)) (by (with_reducible repeat (first | refine blk_drewN ?_ _ | refine blk_drew ?_ | refine blk_alloc ?_ _)); exact BK566.out) hb); have n2_ := Aside0.mk (below_step (by repeat (first | (with_reducible first | exact HB.out | apply below_alloc | apply pw_below_drewN | apply below_drew1 | refine below_set ?_ GE566.out) | exact HB.out)) hb); clear HO_4; clear BK566; clear HB; have HO_4 := n0_; have BK566 := n1_; have HB := n2_; clear n0_ n1_ n2_; (try clear hb); (try clear hb2); (try clear hk); (try clear hi)) | ((with_reducible refine gate_builtin (b := .append) (xs := #[.tmp 13, .tmp 17]) rfl ?_); at_builtin; refine Kd.R_append Kd.bool (w0 := w) w.heap.size rfl (.tmp 13) (.tmp 17) 66 4 (.bool false) 1 rfl Try.underlying66 info4 rfl (by decide) (by omega) u4 x4_1 t568 [.bool t568] (fun _ => True) (fun _ => False) rfl rfl ?aP (fun _ hk => hk.elim) ?aF ?aO ?aB ?aS ?aL ?_; (case aP => exact rfl); (case aB => exact (by repeat (first | (with_reducible first | exact HB.out | apply below_alloc | apply pw_below_drewN | apply below_drew1 | refine below_set ?_ GE566.out) | exact HB.out))); (case aF => exact (fun _ _ => trivial)); (case aO => exact (by (with_reducible repeat (first | apply Kd.R_alloc | apply Kd.R_drewN | apply Kd.R_drew)); exact HO_4.out)); (case aS => exact (below_size (by repeat (first | (with_reducible first | exact HB.out | apply below_alloc | apply pw_below_drewN | apply below_drew1 | refine below_set ?_ GE566.out) | exact HB.out)))); (case aL => have := LMc7.out; omega); intro v570 w11 ho hb hg hat; rw [← Ny569.out] at ho; have n0_ := Aside0.mk (blk_grown (g := gb566) (o := .cells #[.bool x567000_1, .int .i64 x567001_1, .bool x567002_1, .bool x567003_1] 49 (0, 0)) (by (with_reducible repeat (first | refine blk_drewN ?_ _ | refine blk_drew ?_ | refine blk_alloc ?_ _)); exact BK566.out) hg (Kd.R_ne HO_4.out BK566.out (by decide))); have n1_ := Aside0.mk (hb); have n2_ := Aside0.mk (ho); clear BK566; clear HB; clear HO_4; have BK566 := n0_; have HB := n1_; have HO571 := n2_; clear n0_ n1_ n2_; clear ho hb hg hat; have hcz12_0 : w11.cell? ⟨gb566, 0, none⟩ = some (.bool x567000_1) := (blk_cell BK566.out 0).trans rfl; have hcz12_1 : w11.cell? ⟨gb566, 1, none⟩ = some (.int .i64 x567001_1) := (blk_cell BK566.out 1).trans rfl; have hcz12_2 : w11.cell? ⟨gb566, 2, none⟩ = some (.bool x567002_1) := (blk_cell BK566.out 2).trans rfl; have hcz12_3 : w11.cell? ⟨gb566, 3, none⟩ = some (.bool x567003_1) := (blk_cell BK566.out 3).trans rfl; have hfz12_0 := blk_frozen BK566.out 0; have hfz12_1 := blk_frozen BK566.out 1; have hfz12_2 := blk_frozen BK566.out 2; have hfz12_3 := blk_frozen BK566.out 3) | ((with_reducible refine gate_callee (f := 52) rfl ?_); refine goesL_ (some 21) rfl rfl Try.func52 (by kernel_rfl) rfl #[.agg #[.bool x567000_1, .int .i64 x567001_1, .bool x567002_1, .bool x567003_1], .int .i64 (rd l0 x9_1)] rfl (by (try simp only [List.map_toArray, List.map_cons, List.map_nil]); first | done | rfl | (simp only [List.length_drop, List.length_take]; rfl)) ?_; (with_reducible refine (clus_Next.calls x567000_1 x567001_1 x567002_1 x567003_1 (rd l0 x9_1) t572 t573 t574 t575 _ A8.out).mono ?_); rintro e w13 ⟨rfl, hb⟩; refine ⟨_, rfl, ?_⟩; have n0_ := Aside0.mk (Kd.R_below (by (with_reducible repeat (first | apply Kd.R_alloc | apply Kd.R_drewN | apply Kd.R_drew)); exact HO571.out) hb); have n1_ := Aside0.mk (blk_below (g := gb566) (o := .cells #[.bool x567000_1, .int .i64 x567001_1, .bool x567002_1, .bool x567003_1] 49 (0, 0)) (by (with_reducible repeat (first | refine blk_drewN ?_ _ | refine blk_drew ?_ | refine blk_alloc ?_ _)); exact BK566.out) hb); have n2_ := Aside0.mk (below_step (by repeat (first | (with_reducible first | exact HB.out | apply below_alloc | apply pw_below_drewN | apply below_drew1 | refine below_set ?_ GE566.out) | exact HB.out)) hb); clear HO571; clear BK566; clear HB; have HO571 := n0_; have BK566 := n1_; have HB := n2_; clear n0_ n1_ n2_; (try clear hb); (try clear hb2); (try clear hk); (try clear hi); have hcz14_0 : w13.cell? ⟨gb566, 0, none⟩ = some (.bool x567000_1) := (blk_cell BK566.out 0).trans rfl; have hcz14_1 : w13.cell? ⟨gb566, 1, none⟩ = some (.int .i64 x567001_1) := (blk_cell BK566.out 1).trans rfl; have hcz14_2 : w13.cell? ⟨gb566, 2, none⟩ = some (.bool x567002_1) := (blk_cell BK566.out 2).trans rfl; have hcz14_3 : w13.cell? ⟨gb566, 3, none⟩ = some (.bool x567003_1) := (blk_cell BK566.out 3).trans rfl; have hfz14_0 := blk_frozen BK566.out 0; have hfz14_1 := blk_frozen BK566.out 1; have hfz14_2 := blk_frozen BK566.out 2; have hfz14_3 := blk_frozen BK566.out 3))
              go_roundg k1
              case measure => have := HK1.out; omega
              case rel => exact ⟨(y569), (wrap64 (x9_1 + 1)), (t572), (t573), (t574), (t575), (by first | rfl | (simp; done) | (simp [*]; done)), H', ⟨by have := HK1.out; omega⟩, ⟨by (with_reducible repeat (first | apply Kd.R_alloc | apply Kd.R_drewN | apply Kd.R_drew)); exact Kd.R_mono (Kd.R_far (p := ⟨gb566, 3, none⟩) (Kd.R_far (p := ⟨gb566, 2, none⟩) (Kd.R_far (p := ⟨gb566, 1, none⟩) (Kd.R_far (p := ⟨gb566, 0, none⟩) (Kd.R_types HO571.out BK566.out (by decide)) (fun _ hk => hk.2) (.bool t572)) (fun _ hk => hk.2) (.int .i64 t573)) (fun _ hk => hk.2) (.bool t574)) (fun _ hk => hk.2) (.bool t575)) (fun _ hk => trivial)⟩, ⟨by (with_reducible repeat (first | refine blk_drewN ?_ _ | refine blk_drew ?_ | refine blk_alloc ?_ _)); refine blk_put (cs := #[.bool t572, .int .i64 t573, .bool t574, .bool x567003_1]) ?_ 3 _ rfl; (with_reducible repeat (first | refine blk_drewN ?_ _ | refine blk_drew ?_ | refine blk_alloc ?_ _)); refine blk_put (cs := #[.bool t572, .int .i64 t573, .bool x567002_1, .bool x567003_1]) ?_ 2 _ rfl; (with_reducible repeat (first | refine blk_drewN ?_ _ | refine blk_drew ?_ | refine blk_alloc ?_ _)); refine blk_put (cs := #[.bool t572, .int .i64 x567001_1, .bool x567002_1, .bool x567003_1]) ?_ 1 _ rfl; (with_reducible repeat (first | refine blk_drewN ?_ _ | refine blk_drew ?_ | refine blk_alloc ?_ _)); refine blk_put (cs := #[.bool x567000_1, .int .i64 x567001_1, .bool x567002_1, .bool x567003_1]) ?_ 0 _ rfl; (with_reducible repeat (first | refine blk_drewN ?_ _ | refine blk_drew ?_ | refine blk_alloc ?_ _)); exact BK566.out⟩, ⟨by repeat (first | (with_reducible first | exact HB.out | apply below_alloc | apply pw_below_drewN | apply below_drew1 | refine below_set ?_ GE566.out) | exact HB.out)⟩⟩
            · rw [if_neg c7] at H
              exact absurd H (by simp)
          · rw [if_neg c5] at H
            exact absurd H (by simp)
        · rw [if_neg c4] at H
          exact absurd H (by simp)
      · rw [if_neg c3] at H
        have c3b0 : decide (x9_1 < (l0.length : Int)) = false := decide_eq_false c3
        clear c3
        obtain rfl := Option.some.inj H
        go_wp2
        go_ret
        exact ⟨_, by first | rfl | (simp [errW_none, errW_some] <;> rfl) | (simp [*, errW_none, errW_some] <;> rfl), by (with_reducible repeat (first | apply Kd.R_alloc | apply Kd.R_drewN | apply Kd.R_drew)); exact HO_4.out, by repeat (first | (with_reducible first | exact HB.out | apply below_alloc | apply pw_below_drewN | apply below_drew1 | refine below_set ?_ GE566.out) | exact HB.out)⟩

end Go.Proofs.Ytcabijajjceghaa.G
