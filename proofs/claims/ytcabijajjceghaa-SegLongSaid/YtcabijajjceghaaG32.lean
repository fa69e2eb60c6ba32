-- PRINTED by print.py (a twelfth state) out of the translation. Not trusted: Lean checks it.
import Derived.Test.YtcabijajjceghaaG0
import Derived.Test.YtcabijajjceghaaG30
import Derived.Test.YtcabijajjceghaaHAll
namespace Go.Proofs.Ytcabijajjceghaa.G
open Go.RowKit Go.Proofs.YtcabijajjceghaaW.PrintWords Go.Proofs.YtcabijajjceghaaW.PrintLast Go.Proofs.YtcabijajjceghaaW.PrintMore
attribute [local go_sem] max2_int min2_int max_two min_two max_three min_three max_four min_four   -- for this text's walks alone
set_option linter.unusedVariables false
set_option linter.unusedSimpArgs false

/-! ### pentroughlaw12_SegLong: function 9 -/
mutual
def pentroughlaw12_SegLong.l0 : Nat → Bool → Int → Int → Int → List Int → Int → Option (Bool)
  | 0, _, _, _, _, _, _ => none
  | k + 1, x7, x8, x9, x10, x11, x12 => if x12 < x8 then (if x11.length < 17592186044416 then (pentroughlaw12_SegLong.l0 k x7 x8 x9 x10 (x11 ++ [769]) (wrap64 (x12 + 1))) else (none)) else (if x11.length < 17592186044416 then (pentroughlaw12_SegLong.l1 k x7 x8 x9 (x11 ++ [x10]) 0) else (none))
def pentroughlaw12_SegLong.l1 : Nat → Bool → Int → Int → List Int → Int → Option (Bool)
  | 0, _, _, _, _, _ => none
  | k + 1, x7, x8, x9, x11, x13 => if x13 < x9 then (if x11.length < 17592186044416 then (pentroughlaw12_SegLong.l1 k x7 x8 x9 (x11 ++ [803]) (wrap64 (x13 + 1))) else (none)) else ((seg_All.f x11).bind fun t448 => (if (t448.length : Int) = (wrap64 ((wrap64 (Int.tdiv (wrap64 (x8 + 32)) 32)) + (wrap64 (Int.tdiv (wrap64 (x9 + 32)) 32)))) then (pentroughlaw12_SegLong.l2 k x7 x8 x9 t448 (wrap64 (Int.tdiv (wrap64 (x8 + 32)) 32)) 0) else (some false)))
def pentroughlaw12_SegLong.l2 : Nat → Bool → Int → Int → List (List Int) → Int → Int → Option (Bool)
  | 0, _, _, _, _, _, _ => none
  | k + 1, x7, x8, x9, x14, x15, x16 => if x16 < (x14.length : Int) then (if x16 = (wrap64 (x15 - 1)) then (pentroughlaw12_SegLong.j3 k x7 x8 x9 x14 x15 x16 (wrap64 ((wrap64 (x8 + 1)) - (wrap64 (32 * (wrap64 (x15 - 1))))))) else (pentroughlaw12_SegLong.j3 k x7 x8 x9 x14 x15 x16 32)) else (some x7)
def pentroughlaw12_SegLong.j3 : Nat → Bool → Int → Int → List (List Int) → Int → Int → Int → Option (Bool)
  | 0, _, _, _, _, _, _, _ => none
  | k + 1, x7, x8, x9, x14, x15, x16, x17 => if x16 = (wrap64 ((x14.length : Int) - 1)) then (if 0 ≤ x16 then (if x16 < (x14.length : Int) then (if ((rd_L2 x14 x16).length : Int) = (wrap64 ((wrap64 (x9 + 1)) - (wrap64 (32 * (wrap64 ((wrap64 ((x14.length : Int) - x15)) - 1)))))) then (pentroughlaw12_SegLong.l2 k x7 x8 x9 x14 x15 (wrap64 (x16 + 1))) else (some false)) else (none)) else (none)) else (if 0 ≤ x16 then (if x16 < (x14.length : Int) then (if ((rd_L2 x14 x16).length : Int) = x17 then (pentroughlaw12_SegLong.l2 k x7 x8 x9 x14 x15 (wrap64 (x16 + 1))) else (some false)) else (none)) else (none))
end
def pentroughlaw12_SegLong.f (k : Nat) (a0 : Int) (a1 : Int) (a2 : Int) : Option (Bool) := (pentroughlaw12_awake.f k).bind fun t435 => (pentroughlaw12_SegLong.l0 k t435 (Go.bits .and .i64 a0 127) (Go.bits .and .i64 a1 127) (wrap64 (97 + (Int.tmod (Go.bits .and .i64 a2 65535) 26))) (([wrap64 (97 + (Int.tmod (Go.bits .and .i64 a2 65535) 26))] : List Int)) 0)
theorem pentroughlaw12_SegLong.mono_l : ∀ k, (∀ y0 y1 y2 y3 y4 y5, LeO (pentroughlaw12_SegLong.l0 k y0 y1 y2 y3 y4 y5) (pentroughlaw12_SegLong.l0 (k + 1) y0 y1 y2 y3 y4 y5)) ∧ (∀ y0 y1 y2 y3 y4, LeO (pentroughlaw12_SegLong.l1 k y0 y1 y2 y3 y4) (pentroughlaw12_SegLong.l1 (k + 1) y0 y1 y2 y3 y4)) ∧ (∀ y0 y1 y2 y3 y4 y5, LeO (pentroughlaw12_SegLong.l2 k y0 y1 y2 y3 y4 y5) (pentroughlaw12_SegLong.l2 (k + 1) y0 y1 y2 y3 y4 y5)) ∧ (∀ y0 y1 y2 y3 y4 y5 y6, LeO (pentroughlaw12_SegLong.j3 k y0 y1 y2 y3 y4 y5 y6) (pentroughlaw12_SegLong.j3 (k + 1) y0 y1 y2 y3 y4 y5 y6))
  | 0 => ⟨fun _ _ _ _ _ _ r h => by simp [pentroughlaw12_SegLong.l0] at h, fun _ _ _ _ _ r h => by simp [pentroughlaw12_SegLong.l1] at h, fun _ _ _ _ _ _ r h => by simp [pentroughlaw12_SegLong.l2] at h, fun _ _ _ _ _ _ _ r h => by simp [pentroughlaw12_SegLong.j3] at h⟩
  | k + 1 => by
    obtain ⟨ih0, ih1, ih2, ih3⟩ := pentroughlaw12_SegLong.mono_l k
    refine ⟨?_, ?_, ?_, ?_⟩
    · intro y0 y1 y2 y3 y4 y5
      unfold pentroughlaw12_SegLong.l0
      repeat' first
      | (with_reducible exact ih0 _ _ _ _ _ _)
      | (with_reducible exact ih1 _ _ _ _ _)
      | (with_reducible exact ih2 _ _ _ _ _ _)
      | (with_reducible exact ih3 _ _ _ _ _ _ _)
      | (with_reducible exact pentroughlaw12_awake.mono _)
      | (with_reducible exact LeO.refl _)
      | (with_reducible exact LeO.none _)
      | (with_reducible refine LeO.ite ?_ ?_)
      | (with_reducible refine LeO.bind ?_ (fun _ => ?_))
      | exact ih0 _ _ _ _ _ _
      | exact ih1 _ _ _ _ _
      | exact ih2 _ _ _ _ _ _
      | exact ih3 _ _ _ _ _ _ _
      | exact pentroughlaw12_awake.mono _
      | exact LeO.none _
      | refine LeO.ite ?_ ?_
      | refine LeO.bind ?_ (fun _ => ?_)
    · intro y0 y1 y2 y3 y4
      unfold pentroughlaw12_SegLong.l1
      repeat' first
      | (with_reducible exact ih0 _ _ _ _ _ _)
      | (with_reducible exact ih1 _ _ _ _ _)
      | (with_reducible exact ih2 _ _ _ _ _ _)
      | (with_reducible exact ih3 _ _ _ _ _ _ _)
      | (with_reducible exact pentroughlaw12_awake.mono _)
      | (with_reducible exact LeO.refl _)
      | (with_reducible exact LeO.none _)
      | (with_reducible refine LeO.ite ?_ ?_)
      | (with_reducible refine LeO.bind ?_ (fun _ => ?_))
      | exact ih0 _ _ _ _ _ _
      | exact ih1 _ _ _ _ _
      | exact ih2 _ _ _ _ _ _
      | exact ih3 _ _ _ _ _ _ _
      | exact pentroughlaw12_awake.mono _
      | exact LeO.none _
      | refine LeO.ite ?_ ?_
      | refine LeO.bind ?_ (fun _ => ?_)
    · intro y0 y1 y2 y3 y4 y5
      unfold pentroughlaw12_SegLong.l2
      repeat' first
      | (with_reducible exact ih0 _ _ _ _ _ _)
      | (with_reducible exact ih1 _ _ _ _ _)
      | (with_reducible exact ih2 _ _ _ _ _ _)
      | (with_reducible exact ih3 _ _ _ _ _ _ _)
      | (with_reducible exact pentroughlaw12_awake.mono _)
      | (with_reducible exact LeO.refl _)
      | (with_reducible exact LeO.none _)
      | (with_reducible refine LeO.ite ?_ ?_)
      | (with_reducible refine LeO.bind ?_ (fun _ => ?_))
      | exact ih0 _ _ _ _ _ _
      | exact ih1 _ _ _ _ _
      | exact ih2 _ _ _ _ _ _
      | exact ih3 _ _ _ _ _ _ _
      | exact pentroughlaw12_awake.mono _
      | exact LeO.none _
      | refine LeO.ite ?_ ?_
      | refine LeO.bind ?_ (fun _ => ?_)
    · intro y0 y1 y2 y3 y4 y5 y6
      unfold pentroughlaw12_SegLong.j3
      repeat' first
      | (with_reducible exact ih0 _ _ _ _ _ _)
      | (with_reducible exact ih1 _ _ _ _ _)
      | (with_reducible exact ih2 _ _ _ _ _ _)
      | (with_reducible exact ih3 _ _ _ _ _ _ _)
      | (with_reducible exact pentroughlaw12_awake.mono _)
      | (with_reducible exact LeO.refl _)
      | (with_reducible exact LeO.none _)
      | (with_reducible refine LeO.ite ?_ ?_)
      | (with_reducible refine LeO.bind ?_ (fun _ => ?_))
      | exact ih0 _ _ _ _ _ _
      | exact ih1 _ _ _ _ _
      | exact ih2 _ _ _ _ _ _
      | exact ih3 _ _ _ _ _ _ _
      | exact pentroughlaw12_awake.mono _
      | exact LeO.none _
      | refine LeO.ite ?_ ?_
      | refine LeO.bind ?_ (fun _ => ?_)
theorem pentroughlaw12_SegLong.mono : ∀ a0 a1 a2 k, LeO (pentroughlaw12_SegLong.f k a0 a1 a2) (pentroughlaw12_SegLong.f (k + 1) a0 a1 a2) := by
  intro a0 a1 a2 k
  obtain ⟨ih0, ih1, ih2, ih3⟩ := pentroughlaw12_SegLong.mono_l k
  unfold pentroughlaw12_SegLong.f
  repeat' first
      | (with_reducible exact ih0 _ _ _ _ _ _)
      | (with_reducible exact ih1 _ _ _ _ _)
      | (with_reducible exact ih2 _ _ _ _ _ _)
      | (with_reducible exact ih3 _ _ _ _ _ _ _)
      | (with_reducible exact pentroughlaw12_awake.mono _)
      | (with_reducible exact LeO.refl _)
      | (with_reducible exact LeO.none _)
      | (with_reducible refine LeO.ite ?_ ?_)
      | (with_reducible refine LeO.bind ?_ (fun _ => ?_))
      | exact ih0 _ _ _ _ _ _
      | exact ih1 _ _ _ _ _
      | exact ih2 _ _ _ _ _ _
      | exact ih3 _ _ _ _ _ _ _
      | exact pentroughlaw12_awake.mono _
      | exact LeO.none _
      | refine LeO.ite ?_ ?_
      | refine LeO.bind ?_ (fun _ => ?_)
set_option maxHeartbeats 8000000 in
set_option maxRecDepth 100000 in
theorem pentroughlaw12_SegLong.calls (k : Nat) (a0 : Int) (a1 : Int) (a2 : Int) (r : Bool) (w : World) (h : pentroughlaw12_SegLong.f k a0 a1 a2 = some r) :
    Calls Try.prog 9 #[.int .i64 a0, .int .i64 a1, .int .i64 a2] w fun e w' => e = .returned (.bool r) ∧ Below w.heap.size w w' := by
  have HB := Aside0.mk (Below.refl w.heap.size w)
  have H : ((pentroughlaw12_awake.f k).bind fun t435 => (pentroughlaw12_SegLong.l0 k t435 (Go.bits .and .i64 a0 127) (Go.bits .and .i64 a1 127) (wrap64 (97 + (Int.tmod (Go.bits .and .i64 a2 65535) 26))) (([wrap64 (97 + (Int.tmod (Go.bits .and .i64 a2 65535) 26))] : List Int)) 0)) = some r := h
  clear h
  replace H := Option.bind_eq_some_iff.mp H
  obtain ⟨t435, A40, H⟩ := H
  replace H : (pentroughlaw12_SegLong.l0 k t435 (Go.bits .and .i64 a0 127) (Go.bits .and .i64 a1 127) (wrap64 (97 + (Int.tmod (Go.bits .and .i64 a2 65535) 26))) (([wrap64 (97 + (Int.tmod (Go.bits .and .i64 a2 65535) 26))] : List Int)) 0) = some r := H
  have A4 := Aside0.mk A40
  clear A40
  obtain ⟨y436, hy436⟩ : ∃ y_ : List Int, y_ = (([wrap64 (97 + (Int.tmod (Go.bits .and .i64 a2 65535) 26))] : List Int)) := ⟨_, rfl⟩
  replace H : (pentroughlaw12_SegLong.l0 k t435 (Go.bits .and .i64 a0 127) (Go.bits .and .i64 a1 127) (wrap64 (97 + (Int.tmod (Go.bits .and .i64 a2 65535) 26))) y436 0) = some r := by first | (rw [hy436]; with_reducible exact H) | (have H2_ := (Option.bind_some _ _).symm.trans H; rw [hy436]; with_reducible exact H2_) | (have H2_ := (Option.bind_some _ _).symm.trans H; with_reducible exact H2_) | with_reducible exact H | (rw [hy436]; exact H) | exact H
  have Ny436 := Aside0.mk hy436
  clear hy436
  have H' := Aside0.mk H
  clear H
  go_enter Try.func9, Try.ntmps9
  go_wp2_with (first | ((with_reducible refine gate_callee (f := 27) rfl ?_); refine goesL_ (some 18) rfl rfl Try.func27 (by kernel_rfl) rfl #[] rfl (by (try simp only [List.map_toArray, List.map_cons, List.map_nil]); first | done | rfl | (simp only [List.length_drop, List.length_take]; rfl)) ?_; (with_reducible refine (pentroughlaw12_awake.calls k  t435 _ A4.out).mono ?_); rintro e w5 ⟨rfl, hb⟩; refine ⟨_, rfl, ?_⟩; have n0_ := Aside0.mk (below_step (by repeat (first | (with_reducible first | exact HB.out | apply below_alloc | apply pw_below_drewN | apply below_drew1) | exact HB.out)) hb); clear HB; have HB := n0_; clear n0_; (try clear hb); (try clear hb2); (try clear hk); (try clear hi)) | ((with_reducible refine gate_dst (N := 28) rfl ?_); refine Kd.R_lit (Kd.int .i64) _ 3 ?hg (N := 28) ?hd (xs := ([wrap64 (97 + (Int.tmod (Go.bits .and .i64 a2 65535) 26))] : List Int)) (inner := [.int .i64 (wrap64 (97 + (Int.tmod (Go.bits .and .i64 a2 65535) 26)))]) (ok := fun _ => True) (okp := fun _ => True) ?hr ?hp (fun _ hk => hk) trivial (Below.refl _ _) (Nat.le_refl _) (by simp) ?_; (case hd => rfl); (case hg => rfl); (case hr => first | (go_simp; done) | (go_simp; rfl)); (case hp => exact (Reps.one (show Kd.M (Kd.int .i64) _ _ _ (wrap64 (97 + (Int.tmod (Go.bits .and .i64 a2 65535) 26))) [.int .i64 (wrap64 (97 + (Int.tmod (Go.bits .and .i64 a2 65535) 26)))] from rfl) (Reps.none _ _))); intro v437 w6 ho7 hb hg_ hnew_; clear hg_ hnew_; (first | rw [← Ny436.out] at ho7 | (simp only [Int.reduceToNat] at ho7; rw [← Ny436.out] at ho7)); have n0_ := Aside0.mk (Kd.R_lower ho7 (below_size (by repeat (first | (with_reducible first | exact HB.out | apply below_alloc | apply pw_below_drewN | apply below_drew1) | exact HB.out)))); have n1_ := Aside0.mk (below_step (by repeat (first | (with_reducible first | exact HB.out | apply below_alloc | apply pw_below_drewN | apply below_drew1) | exact HB.out)) hb); clear HB; have HO438 := n0_; have HB := n1_; clear n0_ n1_; clear hb ho7))
  go_loopg [11, 12] k (fun kq v11 v12 w' => ∃ (x11_1 : List Int) (x12_1 : Int), v12 = .int .i64 x12_1 ∧ Aside0 (pentroughlaw12_SegLong.l0 kq t435 (Go.bits .and .i64 a0 127) (Go.bits .and .i64 a1 127) (wrap64 (97 + (Int.tmod (Go.bits .and .i64 a2 65535) 26))) x11_1 x12_1 = some r) ∧ Aside0 (kq ≤ k) ∧ Aside0 (Kd.R (Kd.int .i64) 3 w' w.heap.size (fun _ => True) v11 x11_1) ∧ Aside0 (Below w.heap.size w w'))
  case atStart => exact ⟨(y436), (0), (by first | rfl | (simp; done) | (simp [*]; done)), H', ⟨Nat.le_refl _⟩, ⟨by (with_reducible repeat (first | apply Kd.R_alloc | apply Kd.R_drewN | apply Kd.R_drew)); exact HO438.out⟩, ⟨by repeat (first | (with_reducible first | exact HB.out | apply below_alloc | apply pw_below_drewN | apply below_drew1) | exact HB.out)⟩⟩
  case round =>
    clear H'
    try clear c2
    try clear p2
    try clear p6
    obtain ⟨x11_1, x12_1, rfl, HA, HK1, HO_11, HB⟩ := hrel
    cases gk with
    | zero => exact absurd HA.out (by simp [pentroughlaw12_SegLong.l0])
    | succ k1 =>
      have H := HA.out
      clear HA
      simp only [pentroughlaw12_SegLong.l0] at H
      by_cases c8 : x12_1 < (Go.bits .and .i64 a0 127)
      · rw [if_pos c8] at H
        have c8b0 : decide (x12_1 < (Go.bits .and .i64 a0 127)) = true := decide_eq_true c8
        clear c8
        by_cases c9 : x11_1.length < 17592186044416
        · rw [if_pos c9] at H
          have LMc9 := Aside0.mk c9
          clear c9
          obtain ⟨y439, hy439⟩ : ∃ y_ : List Int, y_ = (x11_1 ++ [769]) := ⟨_, rfl⟩
          replace H : (pentroughlaw12_SegLong.l0 k1 t435 (Go.bits .and .i64 a0 127) (Go.bits .and .i64 a1 127) (wrap64 (97 + (Int.tmod (Go.bits .and .i64 a2 65535) 26))) y439 (wrap64 (x12_1 + 1))) = some r := by first | (rw [hy439]; with_reducible exact H) | (have H2_ := (Option.bind_some _ _).symm.trans H; rw [hy439]; with_reducible exact H2_) | (have H2_ := (Option.bind_some _ _).symm.trans H; with_reducible exact H2_) | with_reducible exact H | (rw [hy439]; exact H) | exact H
          have Ny439 := Aside0.mk hy439
          clear hy439
          have H' := Aside0.mk H
          clear H
          go_wp2_with (first | ((with_reducible refine gate_builtin (b := .append) (xs := #[.tmp 34, .tmp 35]) rfl ?_); at_builtin; refine Kd.R_append (Kd.int .i64) (w0 := w) w.heap.size rfl (.tmp 34) (.tmp 35) 22 3 (.int .i64 0) 8 rfl Try.underlying22 info3 rfl (by decide) (by omega) u11 x11_1 769 [.int .i64 769] (fun _ => True) (fun _ => False) rfl rfl ?aP (fun _ hk => hk.elim) ?aF ?aO ?aB ?aS ?aL ?_; (case aP => exact rfl); (case aB => exact (by repeat (first | (with_reducible first | exact HB.out | apply below_alloc | apply pw_below_drewN | apply below_drew1) | exact HB.out))); (case aF => exact (fun _ _ => trivial)); (case aO => exact (by (with_reducible repeat (first | apply Kd.R_alloc | apply Kd.R_drewN | apply Kd.R_drew)); exact HO_11.out)); (case aS => exact (below_size (by repeat (first | (with_reducible first | exact HB.out | apply below_alloc | apply pw_below_drewN | apply below_drew1) | exact HB.out)))); (case aL => have := LMc9.out; omega); intro v440 w10 ho hb hg hat; rw [← Ny439.out] at ho; have n0_ := Aside0.mk (hb); have n1_ := Aside0.mk (ho); clear HB; clear HO_11; have HB := n0_; have HO441 := n1_; clear n0_ n1_; clear ho hb hg hat))
          go_roundg k1
          case measure => have := HK1.out; omega
          case rel => exact ⟨(y439), (wrap64 (x12_1 + 1)), (by first | rfl | (simp; done) | (simp [*]; done)), H', ⟨by have := HK1.out; omega⟩, ⟨by (with_reducible repeat (first | apply Kd.R_alloc | apply Kd.R_drewN | apply Kd.R_drew)); exact HO441.out⟩, ⟨by repeat (first | (with_reducible first | exact HB.out | apply below_alloc | apply pw_below_drewN | apply below_drew1) | exact HB.out)⟩⟩
        · rw [if_neg c9] at H
          exact absurd H (by simp)
      · rw [if_neg c8] at H
        have c8b0 : decide (x12_1 < (Go.bits .and .i64 a0 127)) = false := decide_eq_false c8
        clear c8
        by_cases c11 : x11_1.length < 17592186044416
        · rw [if_pos c11] at H
          have LMc11 := Aside0.mk c11
          clear c11
          obtain ⟨y442, hy442⟩ : ∃ y_ : List Int, y_ = (x11_1 ++ [(wrap64 (97 + (Int.tmod (Go.bits .and .i64 a2 65535) 26)))]) := ⟨_, rfl⟩
          replace H : (pentroughlaw12_SegLong.l1 k1 t435 (Go.bits .and .i64 a0 127) (Go.bits .and .i64 a1 127) y442 0) = some r := by first | (rw [hy442]; with_reducible exact H) | (have H2_ := (Option.bind_some _ _).symm.trans H; rw [hy442]; with_reducible exact H2_) | (have H2_ := (Option.bind_some _ _).symm.trans H; with_reducible exact H2_) | with_reducible exact H | (rw [hy442]; exact H) | exact H
          have Ny442 := Aside0.mk hy442
          clear hy442
          have H' := Aside0.mk H
          clear H
          go_wp2_with (first | ((with_reducible refine gate_builtin (b := .append) (xs := #[.tmp 37, .tmp 39]) rfl ?_); at_builtin; refine Kd.R_append (Kd.int .i64) (w0 := w) w.heap.size rfl (.tmp 37) (.tmp 39) 22 3 (.int .i64 0) 8 rfl Try.underlying22 info3 rfl (by decide) (by omega) u11 x11_1 (wrap64 (97 + (Int.tmod (Go.bits .and .i64 a2 65535) 26))) [.int .i64 (wrap64 (97 + (Int.tmod (Go.bits .and .i64 a2 65535) 26)))] (fun _ => True) (fun _ => False) rfl rfl ?aP (fun _ hk => hk.elim) ?aF ?aO ?aB ?aS ?aL ?_; (case aP => exact rfl); (case aB => exact (by repeat (first | (with_reducible first | exact HB.out | apply below_alloc | apply pw_below_drewN | apply below_drew1) | exact HB.out))); (case aF => exact (fun _ _ => trivial)); (case aO => exact (by (with_reducible repeat (first | apply Kd.R_alloc | apply Kd.R_drewN | apply Kd.R_drew)); exact HO_11.out)); (case aS => exact (below_size (by repeat (first | (with_reducible first | exact HB.out | apply below_alloc | apply pw_below_drewN | apply below_drew1) | exact HB.out)))); (case aL => have := LMc11.out; omega); intro v443 w12 ho hb hg hat; rw [← Ny442.out] at ho; have n0_ := Aside0.mk (hb); have n1_ := Aside0.mk (ho); clear HB; clear HO_11; have HB := n0_; have HO444 := n1_; clear n0_ n1_; clear ho hb hg hat))
          go_loopg [11, 13] k1 (fun kq v11 v13 w' => ∃ (x11_2 : List Int) (x13_2 : Int), v13 = .int .i64 x13_2 ∧ Aside0 (pentroughlaw12_SegLong.l1 kq t435 (Go.bits .and .i64 a0 127) (Go.bits .and .i64 a1 127) x11_2 x13_2 = some r) ∧ Aside0 (kq ≤ k1) ∧ Aside0 (Kd.R (Kd.int .i64) 3 w' w.heap.size (fun _ => True) v11 x11_2) ∧ Aside0 (Below w.heap.size w w'))
          case atStart => exact ⟨(y442), (0), (by first | rfl | (simp; done) | (simp [*]; done)), H', ⟨Nat.le_refl _⟩, ⟨by (with_reducible repeat (first | apply Kd.R_alloc | apply Kd.R_drewN | apply Kd.R_drew)); exact HO444.out⟩, ⟨by repeat (first | (with_reducible first | exact HB.out | apply below_alloc | apply pw_below_drewN | apply below_drew1) | exact HB.out)⟩⟩
          case round =>
            clear H'
            try clear c1
            try clear c2
            try clear p2
            try clear p6
            try clear c8
            try clear c8b0
            try clear c9
            try clear c11
            try clear p2
            try clear p6
            obtain ⟨x11_2, x13_2, rfl, HA, HK2, HO_11, HB⟩ := hrel
            cases gk with
            | zero => exact absurd HA.out (by simp [pentroughlaw12_SegLong.l1])
            | succ k2 =>
              have H := HA.out
              clear HA
              simp only [pentroughlaw12_SegLong.l1] at H
              by_cases c13 : x13_2 < (Go.bits .and .i64 a1 127)
              · rw [if_pos c13] at H
                have c13b0 : decide (x13_2 < (Go.bits .and .i64 a1 127)) = true := decide_eq_true c13
                clear c13
                by_cases c14 : x11_2.length < 17592186044416
                · rw [if_pos c14] at H
                  have LMc14 := Aside0.mk c14
                  clear c14
                  obtain ⟨y445, hy445⟩ : ∃ y_ : List Int, y_ = (x11_2 ++ [803]) := ⟨_, rfl⟩
                  replace H : (pentroughlaw12_SegLong.l1 k2 t435 (Go.bits .and .i64 a0 127) (Go.bits .and .i64 a1 127) y445 (wrap64 (x13_2 + 1))) = some r := by first | (rw [hy445]; with_reducible exact H) | (have H2_ := (Option.bind_some _ _).symm.trans H; rw [hy445]; with_reducible exact H2_) | (have H2_ := (Option.bind_some _ _).symm.trans H; with_reducible exact H2_) | with_reducible exact H | (rw [hy445]; exact H) | exact H
                  have Ny445 := Aside0.mk hy445
                  clear hy445
                  have H' := Aside0.mk H
                  clear H
                  go_wp2_with (first | ((with_reducible refine gate_builtin (b := .append) (xs := #[.tmp 46, .tmp 47]) rfl ?_); at_builtin; refine Kd.R_append (Kd.int .i64) (w0 := w) w.heap.size rfl (.tmp 46) (.tmp 47) 22 3 (.int .i64 0) 8 rfl Try.underlying22 info3 rfl (by decide) (by omega) u11 x11_2 803 [.int .i64 803] (fun _ => True) (fun _ => False) rfl rfl ?aP (fun _ hk => hk.elim) ?aF ?aO ?aB ?aS ?aL ?_; (case aP => exact rfl); (case aB => exact (by repeat (first | (with_reducible first | exact HB.out | apply below_alloc | apply pw_below_drewN | apply below_drew1) | exact HB.out))); (case aF => exact (fun _ _ => trivial)); (case aO => exact (by (with_reducible repeat (first | apply Kd.R_alloc | apply Kd.R_drewN | apply Kd.R_drew)); exact HO_11.out)); (case aS => exact (below_size (by repeat (first | (with_reducible first | exact HB.out | apply below_alloc | apply pw_below_drewN | apply below_drew1) | exact HB.out)))); (case aL => have := LMc14.out; omega); intro v446 w15 ho hb hg hat; rw [← Ny445.out] at ho; have n0_ := Aside0.mk (hb); have n1_ := Aside0.mk (ho); clear HB; clear HO_11; have HB := n0_; have HO447 := n1_; clear n0_ n1_; clear ho hb hg hat))
                  go_roundg k2
                  case measure => have := HK1.out; have := HK2.out; omega
                  case rel => exact ⟨(y445), (wrap64 (x13_2 + 1)), (by first | rfl | (simp; done) | (simp [*]; done)), H', ⟨by have := HK1.out; have := HK2.out; omega⟩, ⟨by (with_reducible repeat (first | apply Kd.R_alloc | apply Kd.R_drewN | apply Kd.R_drew)); exact HO447.out⟩, ⟨by repeat (first | (with_reducible first | exact HB.out | apply below_alloc | apply pw_below_drewN | apply below_drew1) | exact HB.out)⟩⟩
                · rw [if_neg c14] at H
                  exact absurd H (by simp)
              · rw [if_neg c13] at H
                have c13b0 : decide (x13_2 < (Go.bits .and .i64 a1 127)) = false := decide_eq_false c13
                clear c13
                replace H := Option.bind_eq_some_iff.mp H
                obtain ⟨t448, A160, H⟩ := H
                replace H : (if (t448.length : Int) = (wrap64 ((wrap64 (Int.tdiv (wrap64 ((Go.bits .and .i64 a0 127) + 32)) 32)) + (wrap64 (Int.tdiv (wrap64 ((Go.bits .and .i64 a1 127) + 32)) 32)))) then (pentroughlaw12_SegLong.l2 k2 t435 (Go.bits .and .i64 a0 127) (Go.bits .and .i64 a1 127) t448 (wrap64 (Int.tdiv (wrap64 ((Go.bits .and .i64 a0 127) + 32)) 32)) 0) else (some false)) = some r := H
                have A16 := Aside0.mk A160
                clear A160
                by_cases c17 : (t448.length : Int) = (wrap64 ((wrap64 (Int.tdiv (wrap64 ((Go.bits .and .i64 a0 127) + 32)) 32)) + (wrap64 (Int.tdiv (wrap64 ((Go.bits .and .i64 a1 127) + 32)) 32))))
                · rw [if_pos c17] at H
                  have c17b0 : ((t448.length : Int) == (wrap64 ((wrap64 (Int.tdiv (wrap64 ((Go.bits .and .i64 a0 127) + 32)) 32)) + (wrap64 (Int.tdiv (wrap64 ((Go.bits .and .i64 a1 127) + 32)) 32))))) = true := beq_iff_eq.mpr c17
                  have c17b1 : ((t448.length : Int) != (wrap64 ((wrap64 (Int.tdiv (wrap64 ((Go.bits .and .i64 a0 127) + 32)) 32)) + (wrap64 (Int.tdiv (wrap64 ((Go.bits .and .i64 a1 127) + 32)) 32))))) = false := bne_eq_false_iff_eq.mpr c17
                  clear c17
                  have H' := Aside0.mk H
                  clear H
                  obtain ⟨Ao18, co18, eo18⟩ := Kd.R_slice HO_11.out
                  subst eo18
                  go_wp2_with (first | ((with_reducible refine gate_callee (f := 28) rfl ?_); refine goesL_ (some 50) rfl rfl Try.func28 (by kernel_rfl) rfl #[.slice Ao18 x11_2.length co18] rfl (by (try simp only [List.map_toArray, List.map_cons, List.map_nil]); first | done | rfl | (simp only [List.length_drop, List.length_take]; rfl)) ?_; (with_reducible refine (seg_All.calls _ _ x11_2 t448 _ ?side1 ?side2 A16.out).mono ?_); (case side1 => repeat (first | exact (Kd.R_reads' HO_11.out).2.2 | (with_reducible refine Kd.C_alloc ?_ _) | (with_reducible refine Kd.C_drewN ?_ _) | (with_reducible refine Kd.C_drew ?_))); (case side2 => exact (Kd.R_reads' HO_11.out).2.1); rintro e w19 ⟨v449, rfl, ho0, hb⟩; refine ⟨_, rfl, ?_⟩; have n0_ := Aside0.mk (Kd.R_below (by (with_reducible repeat (first | apply Kd.R_alloc | apply Kd.R_drewN | apply Kd.R_drew)); exact HO_11.out) hb); have n1_ := Aside0.mk (Kd.V_lower (Kd.V_mono (ok' := fun k_ => some k_ ≠ (.slice Ao18 x11_2.length co18 : Value).ownBlock) ho0 (fun k_ hk_ => (Kd.fresh' (Kd.R_lt (by (with_reducible repeat (first | apply Kd.R_alloc | apply Kd.R_drewN | apply Kd.R_drew)); exact HO_11.out)) k_ hk_))) (below_size (by repeat (first | (with_reducible first | exact HB.out | apply below_alloc | apply pw_below_drewN | apply below_drew1) | exact HB.out)))); have n2_ := Aside0.mk (below_step (by repeat (first | (with_reducible first | exact HB.out | apply below_alloc | apply pw_below_drewN | apply below_drew1) | exact HB.out)) hb); clear HO_11; clear HB; have HO_11 := n0_; have HO450 := n1_; have HB := n2_; clear n0_ n1_ n2_; (try clear hb); (try clear hb2); (try clear hk); (try clear hi); (try clear ho0); obtain ⟨Ao20, co20, eo20⟩ := Kd.V_slice HO450.out; subst eo20))
                  go_loopg [16] k2 (fun kq v16 w' => ∃ (x16_3 : Int), v16 = .int .i64 x16_3 ∧ Aside0 (pentroughlaw12_SegLong.l2 kq t435 (Go.bits .and .i64 a0 127) (Go.bits .and .i64 a1 127) t448 (wrap64 (Int.tdiv (wrap64 ((Go.bits .and .i64 a0 127) + 32)) 32)) x16_3 = some r) ∧ Aside0 (kq ≤ k2) ∧ Aside0 (Kd.V (Kd.slice 3 (Kd.int .i64)) 22 w' w.heap.size (fun _ => True) (.slice Ao20 t448.length co20) t448) ∧ Aside0 (Below w.heap.size w w'))
                  case atStart => exact ⟨(0), (by first | rfl | (simp; done) | (simp [*]; done)), H', ⟨Nat.le_refl _⟩, ⟨by (with_reducible repeat (first | apply Kd.V_alloc | apply Kd.V_drewN | apply Kd.V_drew)); exact Kd.V_mono HO450.out (fun _ hk => trivial)⟩, ⟨by repeat (first | (with_reducible first | exact HB.out | apply below_alloc | apply pw_below_drewN | apply below_drew1) | exact HB.out)⟩⟩
                  case round =>
                    clear H'
                    try clear c1
                    try clear c2
                    try clear p2
                    try clear p6
                    try clear c8
                    try clear c8b0
                    try clear c9
                    try clear c11
                    try clear c13
                    try clear c13b0
                    try clear c14
                    try clear c17
                    try clear c17b0
                    try clear c17b1
                    try clear p2
                    try clear p6
                    obtain ⟨x16_3, rfl, HA, HK3, HO_14, HB⟩ := hrel
                    cases gk with
                    | zero => exact absurd HA.out (by simp [pentroughlaw12_SegLong.l2])
                    | succ k3 =>
                      have H := HA.out
                      clear HA
                      simp only [pentroughlaw12_SegLong.l2] at H
                      by_cases c21 : x16_3 < (t448.length : Int)
                      · rw [if_pos c21] at H
                        have c21b0 : decide (x16_3 < (t448.length : Int)) = true := decide_eq_true c21
                        clear c21
                        have HC22 := Aside0.mk H
                        clear H
                        go_upto_if 71 with (fail)
                        go_cut [17] (fun v17 wc => ∃ (kq : Nat) (x17_21 : Int), v17 = .int .i64 x17_21 ∧ Aside0 (pentroughlaw12_SegLong.j3 kq t435 (Go.bits .and .i64 a0 127) (Go.bits .and .i64 a1 127) t448 (wrap64 (Int.tdiv (wrap64 ((Go.bits .and .i64 a0 127) + 32)) 32)) x16_3 x17_21 = some r) ∧ Aside0 (kq ≤ k3) ∧ Aside0 (Kd.V (Kd.slice 3 (Kd.int .i64)) 22 wc w.heap.size (fun _ => True) (.slice Ao20 t448.length co20) t448) ∧ Aside0 (Below w.heap.size w wc))
                        case first =>
                          have H := HC22.out
                          clear HC22
                          by_cases c23 : x16_3 = (wrap64 ((wrap64 (Int.tdiv (wrap64 ((Go.bits .and .i64 a0 127) + 32)) 32)) - 1))
                          · rw [if_pos c23] at H
                            have c23b0 : (x16_3 == (wrap64 ((wrap64 (Int.tdiv (wrap64 ((Go.bits .and .i64 a0 127) + 32)) 32)) - 1))) = true := beq_iff_eq.mpr c23
                            have c23b1 : (x16_3 != (wrap64 ((wrap64 (Int.tdiv (wrap64 ((Go.bits .and .i64 a0 127) + 32)) 32)) - 1))) = false := bne_eq_false_iff_eq.mpr c23
                            clear c23
                            (first | rw [c23b0] | (simp only [i64_w, i32_w]; rw [c23b0]) | skip)
                            have H' := Aside0.mk H
                            clear H
                            go_wp2
                            go_meet
                            case rel => exact ⟨_, (wrap64 ((wrap64 ((Go.bits .and .i64 a0 127) + 1)) - (wrap64 (32 * (wrap64 ((wrap64 (Int.tdiv (wrap64 ((Go.bits .and .i64 a0 127) + 32)) 32)) - 1)))))), (by first | rfl | (simp; done) | (simp [*]; done)), H', ⟨by have := HK1.out; have := HK2.out; have := HK3.out; first | omega | exact Nat.le_refl _⟩, ⟨by (with_reducible repeat (first | apply Kd.V_alloc | apply Kd.V_drewN | apply Kd.V_drew)); exact HO_14.out⟩, ⟨by repeat (first | (with_reducible first | exact HB.out | apply below_alloc | apply pw_below_drewN | apply below_drew1) | exact HB.out)⟩⟩
                          · rw [if_neg c23] at H
                            have c23b0 : (x16_3 == (wrap64 ((wrap64 (Int.tdiv (wrap64 ((Go.bits .and .i64 a0 127) + 32)) 32)) - 1))) = false := beq_eq_false_iff_ne.mpr c23
                            have c23b1 : (x16_3 != (wrap64 ((wrap64 (Int.tdiv (wrap64 ((Go.bits .and .i64 a0 127) + 32)) 32)) - 1))) = true := bne_iff_ne.mpr c23
                            (first | rw [c23b0] | (simp only [i64_w, i32_w]; rw [c23b0]) | skip)
                            have H' := Aside0.mk H
                            clear H
                            go_wp2
                            go_meet
                            case rel => exact ⟨_, (32), (by first | rfl | (simp; done) | (simp [*]; done)), H', ⟨by have := HK1.out; have := HK2.out; have := HK3.out; first | omega | exact Nat.le_refl _⟩, ⟨by (with_reducible repeat (first | apply Kd.V_alloc | apply Kd.V_drewN | apply Kd.V_drew)); exact HO_14.out⟩, ⟨by repeat (first | (with_reducible first | exact HB.out | apply below_alloc | apply pw_below_drewN | apply below_drew1) | exact HB.out)⟩⟩
                        case rest =>
                          clear HC22
                          try clear c1
                          try clear c2
                          try clear p2
                          try clear p6
                          try clear c8
                          try clear c8b0
                          try clear c9
                          try clear c11
                          try clear c13
                          try clear c13b0
                          try clear c14
                          try clear c17
                          try clear c17b0
                          try clear c17b1
                          try clear c21
                          try clear c21b0
                          try clear c23
                          try clear c23b0
                          try clear c23b1
                          try clear p2
                          try clear p6
                          obtain ⟨kq, x17_21, rfl, HA, HJ21, HO_14, HB⟩ := hcut
                          cases kq with
                          | zero => exact absurd HA.out (by simp [pentroughlaw12_SegLong.j3])
                          | succ kj21 =>
                            have H := HA.out
                            clear HA
                            simp only [pentroughlaw12_SegLong.j3] at H
                            by_cases c24 : x16_3 = (wrap64 ((t448.length : Int) - 1))
                            · rw [if_pos c24] at H
                              have c24b0 : (x16_3 == (wrap64 ((t448.length : Int) - 1))) = true := beq_iff_eq.mpr c24
                              have c24b1 : (x16_3 != (wrap64 ((t448.length : Int) - 1))) = false := bne_eq_false_iff_eq.mpr c24
                              clear c24
                              by_cases c25 : 0 ≤ x16_3
                              · rw [if_pos c25] at H
                                have c25b0 : decide (0 ≤ x16_3) = true := decide_eq_true c25
                                clear c25
                                by_cases c26 : x16_3 < (t448.length : Int)
                                · rw [if_pos c26] at H
                                  have c26b0 : decide (x16_3 < (t448.length : Int)) = true := decide_eq_true c26
                                  clear c26
                                  by_cases c27 : ((rd_L2 t448 x16_3).length : Int) = (wrap64 ((wrap64 ((Go.bits .and .i64 a1 127) + 1)) - (wrap64 (32 * (wrap64 ((wrap64 ((t448.length : Int) - (wrap64 (Int.tdiv (wrap64 ((Go.bits .and .i64 a0 127) + 32)) 32)))) - 1))))))
                                  · rw [if_pos c27] at H
                                    have c27b0 : (((rd_L2 t448 x16_3).length : Int) == (wrap64 ((wrap64 ((Go.bits .and .i64 a1 127) + 1)) - (wrap64 (32 * (wrap64 ((wrap64 ((t448.length : Int) - (wrap64 (Int.tdiv (wrap64 ((Go.bits .and .i64 a0 127) + 32)) 32)))) - 1))))))) = true := beq_iff_eq.mpr c27
                                    have c27b1 : (((rd_L2 t448 x16_3).length : Int) != (wrap64 ((wrap64 ((Go.bits .and .i64 a1 127) + 1)) - (wrap64 (32 * (wrap64 ((wrap64 ((t448.length : Int) - (wrap64 (Int.tdiv (wrap64 ((Go.bits .and .i64 a0 127) + 32)) 32)))) - 1))))))) = false := bne_eq_false_iff_eq.mpr c27
                                    clear c27
                                    have H' := Aside0.mk H
                                    clear H
                                    have p451 : 0 ≤ (x16_3 : Int) := of_decide_eq_true (by first | (with_reducible assumption) | assumption)
                                    have q451 : x16_3 < (t448.length : Int) := of_decide_eq_true (by first | (with_reducible assumption) | assumption)
                                    obtain ⟨ad451, A451_0, c451_0, e451, hx451_0, hl451_0, hi451_0⟩ := at_L2 (Kd.V_reads' HO_14.out).2.2 x16_3 p451 q451
                                    cases e451
                                    obtain ⟨ce451, hce451, hMe451, hcc451⟩ := Kd.V_get HO_14.out [] x16_3 p451 (by first | exact q451 | exact of_decide_eq_true (by first | (with_reducible assumption) | assumption) | (have e_ := (Kd.V_reads' HO_14.out).1; omega))
                                    obtain ⟨ua451_0, uc451_0, rfl, ul451_0, ge451_0⟩ := Kd.FK_slice_open hMe451
                                    have hv451_0 := hcc451 0 _ rfl
                                    rw [Nat.add_zero, show ((Kd.slice 3 (Kd.int .i64))).sz = 1 from rfl, Nat.mul_one] at hv451_0
                                    replace hv451_0 := Option.some.inj (hv451_0.symm.trans hx451_0)
                                    injection hv451_0 with hva_ hvn_ hvc_
                                    rw [hva_] at ge451_0
                                    rw [hvc_] at ul451_0
                                    have HL451_0 := Aside0.mk (show Kd.V (Kd.int .i64) 3 _ w.heap.size _ _ (rd_L2 t448 x16_3) from Kd.V_mk ul451_0 ge451_0)
                                    clear hva_ hvn_ hvc_ ge451_0 ul451_0
                                    clear hcc451 hce451
                                    have HR451_0 := Aside0.mk hi451_0
                                    have HC451_0 := Aside0.mk hl451_0
                                    clear hi451_0 hl451_0
                                    replace p451 := eq_true p451
                                    replace q451 := eq_true q451
                                    go_wp2
                                    go_roundg kj21
                                    case measure => have := HK1.out; have := HK2.out; have := HK3.out; have := HJ21.out; omega
                                    case rel => exact ⟨(wrap64 (x16_3 + 1)), (by first | rfl | (simp; done) | (simp [*]; done)), H', ⟨by have := HK1.out; have := HK2.out; have := HK3.out; have := HJ21.out; omega⟩, ⟨by (with_reducible repeat (first | apply Kd.V_alloc | apply Kd.V_drewN | apply Kd.V_drew)); exact HO_14.out⟩, ⟨by repeat (first | (with_reducible first | exact HB.out | apply below_alloc | apply pw_below_drewN | apply below_drew1) | exact HB.out)⟩⟩
                                  · rw [if_neg c27] at H
                                    have c27b0 : (((rd_L2 t448 x16_3).length : Int) == (wrap64 ((wrap64 ((Go.bits .and .i64 a1 127) + 1)) - (wrap64 (32 * (wrap64 ((wrap64 ((t448.length : Int) - (wrap64 (Int.tdiv (wrap64 ((Go.bits .and .i64 a0 127) + 32)) 32)))) - 1))))))) = false := beq_eq_false_iff_ne.mpr c27
                                    have c27b1 : (((rd_L2 t448 x16_3).length : Int) != (wrap64 ((wrap64 ((Go.bits .and .i64 a1 127) + 1)) - (wrap64 (32 * (wrap64 ((wrap64 ((t448.length : Int) - (wrap64 (Int.tdiv (wrap64 ((Go.bits .and .i64 a0 127) + 32)) 32)))) - 1))))))) = true := bne_iff_ne.mpr c27
                                    obtain rfl := Option.some.inj H
                                    have p451 : 0 ≤ (x16_3 : Int) := of_decide_eq_true (by first | (with_reducible assumption) | assumption)
                                    have q451 : x16_3 < (t448.length : Int) := of_decide_eq_true (by first | (with_reducible assumption) | assumption)
                                    obtain ⟨ad451, A451_0, c451_0, e451, hx451_0, hl451_0, hi451_0⟩ := at_L2 (Kd.V_reads' HO_14.out).2.2 x16_3 p451 q451
                                    cases e451
                                    obtain ⟨ce451, hce451, hMe451, hcc451⟩ := Kd.V_get HO_14.out [] x16_3 p451 (by first | exact q451 | exact of_decide_eq_true (by first | (with_reducible assumption) | assumption) | (have e_ := (Kd.V_reads' HO_14.out).1; omega))
                                    obtain ⟨ua451_0, uc451_0, rfl, ul451_0, ge451_0⟩ := Kd.FK_slice_open hMe451
                                    have hv451_0 := hcc451 0 _ rfl
                                    rw [Nat.add_zero, show ((Kd.slice 3 (Kd.int .i64))).sz = 1 from rfl, Nat.mul_one] at hv451_0
                                    replace hv451_0 := Option.some.inj (hv451_0.symm.trans hx451_0)
                                    injection hv451_0 with hva_ hvn_ hvc_
                                    rw [hva_] at ge451_0
                                    rw [hvc_] at ul451_0
                                    have HL451_0 := Aside0.mk (show Kd.V (Kd.int .i64) 3 _ w.heap.size _ _ (rd_L2 t448 x16_3) from Kd.V_mk ul451_0 ge451_0)
                                    clear hva_ hvn_ hvc_ ge451_0 ul451_0
                                    clear hcc451 hce451
                                    have HR451_0 := Aside0.mk hi451_0
                                    have HC451_0 := Aside0.mk hl451_0
                                    clear hi451_0 hl451_0
                                    replace p451 := eq_true p451
                                    replace q451 := eq_true q451
                                    go_wp2
                                    go_ret
                                    exact ⟨by first | rfl | (simp [errW_none, errW_some] <;> rfl) | (simp [*, errW_none, errW_some] <;> rfl), by repeat (first | (with_reducible first | exact HB.out | apply below_alloc | apply pw_below_drewN | apply below_drew1) | exact HB.out)⟩
                                · rw [if_neg c26] at H
                                  exact absurd H (by simp)
                              · rw [if_neg c25] at H
                                exact absurd H (by simp)
                            · rw [if_neg c24] at H
                              have c24b0 : (x16_3 == (wrap64 ((t448.length : Int) - 1))) = false := beq_eq_false_iff_ne.mpr c24
                              have c24b1 : (x16_3 != (wrap64 ((t448.length : Int) - 1))) = true := bne_iff_ne.mpr c24
                              by_cases c28 : 0 ≤ x16_3
                              · rw [if_pos c28] at H
                                have c28b0 : decide (0 ≤ x16_3) = true := decide_eq_true c28
                                clear c28
                                by_cases c29 : x16_3 < (t448.length : Int)
                                · rw [if_pos c29] at H
                                  have c29b0 : decide (x16_3 < (t448.length : Int)) = true := decide_eq_true c29
                                  clear c29
                                  by_cases c30 : ((rd_L2 t448 x16_3).length : Int) = x17_21
                                  · rw [if_pos c30] at H
                                    have c30b0 : (((rd_L2 t448 x16_3).length : Int) == x17_21) = true := beq_iff_eq.mpr c30
                                    have c30b1 : (((rd_L2 t448 x16_3).length : Int) != x17_21) = false := bne_eq_false_iff_eq.mpr c30
                                    clear c30
                                    have H' := Aside0.mk H
                                    clear H
                                    have p452 : 0 ≤ (x16_3 : Int) := of_decide_eq_true (by first | (with_reducible assumption) | assumption)
                                    have q452 : x16_3 < (t448.length : Int) := of_decide_eq_true (by first | (with_reducible assumption) | assumption)
                                    obtain ⟨ad452, A452_0, c452_0, e452, hx452_0, hl452_0, hi452_0⟩ := at_L2 (Kd.V_reads' HO_14.out).2.2 x16_3 p452 q452
                                    cases e452
                                    obtain ⟨ce452, hce452, hMe452, hcc452⟩ := Kd.V_get HO_14.out [] x16_3 p452 (by first | exact q452 | exact of_decide_eq_true (by first | (with_reducible assumption) | assumption) | (have e_ := (Kd.V_reads' HO_14.out).1; omega))
                                    obtain ⟨ua452_0, uc452_0, rfl, ul452_0, ge452_0⟩ := Kd.FK_slice_open hMe452
                                    have hv452_0 := hcc452 0 _ rfl
                                    rw [Nat.add_zero, show ((Kd.slice 3 (Kd.int .i64))).sz = 1 from rfl, Nat.mul_one] at hv452_0
                                    replace hv452_0 := Option.some.inj (hv452_0.symm.trans hx452_0)
                                    injection hv452_0 with hva_ hvn_ hvc_
                                    rw [hva_] at ge452_0
                                    rw [hvc_] at ul452_0
                                    have HL452_0 := Aside0.mk (show Kd.V (Kd.int .i64) 3 _ w.heap.size _ _ (rd_L2 t448 x16_3) from Kd.V_mk ul452_0 ge452_0)
                                    clear hva_ hvn_ hvc_ ge452_0 ul452_0
                                    clear hcc452 hce452
                                    have HR452_0 := Aside0.mk hi452_0
                                    have HC452_0 := Aside0.mk hl452_0
                                    clear hi452_0 hl452_0
                                    replace p452 := eq_true p452
                                    replace q452 := eq_true q452
                                    go_wp2
                                    go_roundg kj21
                                    case measure => have := HK1.out; have := HK2.out; have := HK3.out; have := HJ21.out; omega
                                    case rel => exact ⟨(wrap64 (x16_3 + 1)), (by first | rfl | (simp; done) | (simp [*]; done)), H', ⟨by have := HK1.out; have := HK2.out; have := HK3.out; have := HJ21.out; omega⟩, ⟨by (with_reducible repeat (first | apply Kd.V_alloc | apply Kd.V_drewN | apply Kd.V_drew)); exact HO_14.out⟩, ⟨by repeat (first | (with_reducible first | exact HB.out | apply below_alloc | apply pw_below_drewN | apply below_drew1) | exact HB.out)⟩⟩
                                  · rw [if_neg c30] at H
                                    have c30b0 : (((rd_L2 t448 x16_3).length : Int) == x17_21) = false := beq_eq_false_iff_ne.mpr c30
                                    have c30b1 : (((rd_L2 t448 x16_3).length : Int) != x17_21) = true := bne_iff_ne.mpr c30
                                    obtain rfl := Option.some.inj H
                                    have p452 : 0 ≤ (x16_3 : Int) := of_decide_eq_true (by first | (with_reducible assumption) | assumption)
                                    have q452 : x16_3 < (t448.length : Int) := of_decide_eq_true (by first | (with_reducible assumption) | assumption)
                                    obtain ⟨ad452, A452_0, c452_0, e452, hx452_0, hl452_0, hi452_0⟩ := at_L2 (Kd.V_reads' HO_14.out).2.2 x16_3 p452 q452
                                    cases e452
                                    obtain ⟨ce452, hce452, hMe452, hcc452⟩ := Kd.V_get HO_14.out [] x16_3 p452 (by first | exact q452 | exact of_decide_eq_true (by first | (with_reducible assumption) | assumption) | (have e_ := (Kd.V_reads' HO_14.out).1; omega))
                                    obtain ⟨ua452_0, uc452_0, rfl, ul452_0, ge452_0⟩ := Kd.FK_slice_open hMe452
                                    have hv452_0 := hcc452 0 _ rfl
                                    rw [Nat.add_zero, show ((Kd.slice 3 (Kd.int .i64))).sz = 1 from rfl, Nat.mul_one] at hv452_0
                                    replace hv452_0 := Option.some.inj (hv452_0.symm.trans hx452_0)
                                    injection hv452_0 with hva_ hvn_ hvc_
                                    rw [hva_] at ge452_0
                                    rw [hvc_] at ul452_0
                                    have HL452_0 := Aside0.mk (show Kd.V (Kd.int .i64) 3 _ w.heap.size _ _ (rd_L2 t448 x16_3) from Kd.V_mk ul452_0 ge452_0)
                                    clear hva_ hvn_ hvc_ ge452_0 ul452_0
                                    clear hcc452 hce452
                                    have HR452_0 := Aside0.mk hi452_0
                                    have HC452_0 := Aside0.mk hl452_0
                                    clear hi452_0 hl452_0
                                    replace p452 := eq_true p452
                                    replace q452 := eq_true q452
                                    go_wp2
                                    go_ret
                                    exact ⟨by first | rfl | (simp [errW_none, errW_some] <;> rfl) | (simp [*, errW_none, errW_some] <;> rfl), by repeat (first | (with_reducible first | exact HB.out | apply below_alloc | apply pw_below_drewN | apply below_drew1) | exact HB.out)⟩
                                · rw [if_neg c29] at H
                                  exact absurd H (by simp)
                              · rw [if_neg c28] at H
                                exact absurd H (by simp)
                      · rw [if_neg c21] at H
                        have c21b0 : decide (x16_3 < (t448.length : Int)) = false := decide_eq_false c21
                        clear c21
                        obtain rfl := Option.some.inj H
                        go_wp2
                        go_ret
                        exact ⟨by first | rfl | (simp [errW_none, errW_some] <;> rfl) | (simp [*, errW_none, errW_some] <;> rfl), by repeat (first | (with_reducible first | exact HB.out | apply below_alloc | apply pw_below_drewN | apply below_drew1) | exact HB.out)⟩
                · rw [if_neg c17] at H
                  have c17b0 : ((t448.length : Int) == (wrap64 ((wrap64 (Int.tdiv (wrap64 ((Go.bits .and .i64 a0 127) + 32)) 32)) + (wrap64 (Int.tdiv (wrap64 ((Go.bits .and .i64 a1 127) + 32)) 32))))) = false := beq_eq_false_iff_ne.mpr c17
                  have c17b1 : ((t448.length : Int) != (wrap64 ((wrap64 (Int.tdiv (wrap64 ((Go.bits .and .i64 a0 127) + 32)) 32)) + (wrap64 (Int.tdiv (wrap64 ((Go.bits .and .i64 a1 127) + 32)) 32))))) = true := bne_iff_ne.mpr c17
                  obtain rfl := Option.some.inj H
                  obtain ⟨Ao31, co31, eo31⟩ := Kd.R_slice HO_11.out
                  subst eo31
                  go_wp2_with (first | ((with_reducible refine gate_callee (f := 28) rfl ?_); refine goesL_ (some 50) rfl rfl Try.func28 (by kernel_rfl) rfl #[.slice Ao31 x11_2.length co31] rfl (by (try simp only [List.map_toArray, List.map_cons, List.map_nil]); first | done | rfl | (simp only [List.length_drop, List.length_take]; rfl)) ?_; (with_reducible refine (seg_All.calls _ _ x11_2 t448 _ ?side1 ?side2 A16.out).mono ?_); (case side1 => repeat (first | exact (Kd.R_reads' HO_11.out).2.2 | (with_reducible refine Kd.C_alloc ?_ _) | (with_reducible refine Kd.C_drewN ?_ _) | (with_reducible refine Kd.C_drew ?_))); (case side2 => exact (Kd.R_reads' HO_11.out).2.1); rintro e w32 ⟨v449, rfl, ho0, hb⟩; refine ⟨_, rfl, ?_⟩; have n0_ := Aside0.mk (Kd.R_below (by (with_reducible repeat (first | apply Kd.R_alloc | apply Kd.R_drewN | apply Kd.R_drew)); exact HO_11.out) hb); have n1_ := Aside0.mk (Kd.V_lower (Kd.V_mono (ok' := fun k_ => some k_ ≠ (.slice Ao31 x11_2.length co31 : Value).ownBlock) ho0 (fun k_ hk_ => (Kd.fresh' (Kd.R_lt (by (with_reducible repeat (first | apply Kd.R_alloc | apply Kd.R_drewN | apply Kd.R_drew)); exact HO_11.out)) k_ hk_))) (below_size (by repeat (first | (with_reducible first | exact HB.out | apply below_alloc | apply pw_below_drewN | apply below_drew1) | exact HB.out)))); have n2_ := Aside0.mk (below_step (by repeat (first | (with_reducible first | exact HB.out | apply below_alloc | apply pw_below_drewN | apply below_drew1) | exact HB.out)) hb); clear HO_11; clear HB; have HO_11 := n0_; have HO450 := n1_; have HB := n2_; clear n0_ n1_ n2_; (try clear hb); (try clear hb2); (try clear hk); (try clear hi); (try clear ho0); obtain ⟨Ao33, co33, eo33⟩ := Kd.V_slice HO450.out; subst eo33))
                  go_ret
                  exact ⟨by first | rfl | (simp [errW_none, errW_some] <;> rfl) | (simp [*, errW_none, errW_some] <;> rfl), by repeat (first | (with_reducible first | exact HB.out | apply below_alloc | apply pw_below_drewN | apply below_drew1) | exact HB.out)⟩
        · rw [if_neg c11] at H
          exact absurd H (by simp)

/-- THE ONE PURE STATEMENT of pentroughlaw12_SegLong: yours. -/
def pentroughlaw12_SegLong.Pure : Prop := ∀ (a0 : Int) (a1 : Int) (a2 : Int), (Lit.int .i64 a0).wf = true → (Lit.int .i64 a1).wf = true → (Lit.int .i64 a2).wf = true → ∃ k, pentroughlaw12_SegLong.f k a0 a1 a2 = some true
theorem pentroughlaw12_SegLong.walk (P : pentroughlaw12_SegLong.Pure) (a0 : Int) (a1 : Int) (a2 : Int) (w : World) (w0 : (Lit.int .i64 a0).wf = true) (w1 : (Lit.int .i64 a1).wf = true) (w2 : (Lit.int .i64 a2).wf = true) :
    Calls Try.prog 9 #[.int .i64 a0, .int .i64 a1, .int .i64 a2] w fun e w' => e = .returned (.bool true) ∧ Below w.heap.size w w' := by
  obtain ⟨k, h⟩ := P a0 a1 a2 w0 w1 w2
  refine (pentroughlaw12_SegLong.calls k a0 a1 a2 true w h).mono ?_
  rintro e w' ⟨rfl, hd⟩
  exact ⟨rfl, hd⟩

end Go.Proofs.Ytcabijajjceghaa.G
