-- PRINTED by print.py (a twelfth state) out of the translation. Not trusted: Lean checks it.
import Derived.Test.YtcabijajjceghaaG0
import Derived.Test.YtcabijajjceghaaG13
import Derived.Test.YtcabijajjceghaaG30
import Derived.Test.YtcabijajjceghaaHAll
namespace Go.Proofs.Ytcabijajjceghaa.G
open Go.RowKit Go.Proofs.YtcabijajjceghaaW.PrintWords Go.Proofs.YtcabijajjceghaaW.PrintLast Go.Proofs.YtcabijajjceghaaW.PrintMore
attribute [local go_sem] max2_int min2_int max_two min_two max_three min_three max_four min_four   -- for this text's walks alone
set_option linter.unusedVariables false
set_option linter.unusedSimpArgs false

/-! ### pentroughlaw12_SegJoins: function 7 -/
def pentroughlaw12_SegJoins.l0 : Nat → List Int → Bool → List (List Int) → List Int → Int → Option (Bool)
  | 0, _, _, _, _, _ => none
  | k + 1, x0, x3, x4, x5, x6 => if x6 < (x4.length : Int) then (if 0 ≤ x6 then (if ((rd_L2 x4 x6).length : Int) < 1 then (some false) else (if ((rd_L2 x4 x6).length : Int) > 32 then (some false) else (if x5.length + (rd_L2 x4 x6).length < 17592186044416 then (pentroughlaw12_SegJoins.l0 k x0 x3 x4 (x5 ++ (rd_L2 x4 x6)) (wrap64 (x6 + 1))) else (none)))) else (none)) else (if x3 = true then ((pentroughref01_Same.f k x5 x0).bind fun t358 => (some t358)) else (some false))
def pentroughlaw12_SegJoins.f (k : Nat) (l0 : List Int) : Option (Bool) := (pentroughlaw12_awake.f k).bind fun t348 => (if (l0.length : Int) > 200 then (some t348) else ((seg_All.f l0).bind fun t349 => (pentroughlaw12_SegJoins.l0 k l0 t348 t349 ([] : List Int) 0)))
theorem pentroughlaw12_SegJoins.mono_l : ∀ k, (∀ y0 y1 y2 y3 y4, LeO (pentroughlaw12_SegJoins.l0 k y0 y1 y2 y3 y4) (pentroughlaw12_SegJoins.l0 (k + 1) y0 y1 y2 y3 y4))
  | 0 => fun _ _ _ _ _ r h => by simp [pentroughlaw12_SegJoins.l0] at h
  | k + 1 => by
    have ih0 := pentroughlaw12_SegJoins.mono_l k
    · intro y0 y1 y2 y3 y4
      unfold pentroughlaw12_SegJoins.l0
      repeat' first
      | (with_reducible exact ih0 _ _ _ _ _)
      | (with_reducible exact pentroughlaw12_awake.mono _)
      | (with_reducible exact pentroughref01_Same.mono _ _ _)
      | (with_reducible exact LeO.refl _)
      | (with_reducible exact LeO.none _)
      | (with_reducible refine LeO.ite ?_ ?_)
      | (with_reducible refine LeO.bind ?_ (fun _ => ?_))
      | exact ih0 _ _ _ _ _
      | exact pentroughlaw12_awake.mono _
      | exact pentroughref01_Same.mono _ _ _
      | exact LeO.none _
      | refine LeO.ite ?_ ?_
      | refine LeO.bind ?_ (fun _ => ?_)
theorem pentroughlaw12_SegJoins.mono : ∀ a0 k, LeO (pentroughlaw12_SegJoins.f k a0) (pentroughlaw12_SegJoins.f (k + 1) a0) := by
  intro a0 k
  have ih0 := pentroughlaw12_SegJoins.mono_l k
  unfold pentroughlaw12_SegJoins.f
  repeat' first
      | (with_reducible exact ih0 _ _ _ _ _)
      | (with_reducible exact pentroughlaw12_awake.mono _)
      | (with_reducible exact pentroughref01_Same.mono _ _ _)
      | (with_reducible exact LeO.refl _)
      | (with_reducible exact LeO.none _)
      | (with_reducible refine LeO.ite ?_ ?_)
      | (with_reducible refine LeO.bind ?_ (fun _ => ?_))
      | exact ih0 _ _ _ _ _
      | exact pentroughlaw12_awake.mono _
      | exact pentroughref01_Same.mono _ _ _
      | exact LeO.none _
      | refine LeO.ite ?_ ?_
      | refine LeO.bind ?_ (fun _ => ?_)
set_option maxHeartbeats 8000000 in
set_option maxRecDepth 100000 in
theorem pentroughlaw12_SegJoins.calls (k : Nat) (A0 : Option Addr) (c0 : Nat) (l0 : List Int) (r : Bool) (w : World) (hr0 : Kd.C (Kd.int .i64) w A0 l0.length l0) (hc0 : l0.length ≤ c0) (h : pentroughlaw12_SegJoins.f k l0 = some r) :
    Calls Try.prog 7 #[.slice A0 l0.length c0] w fun e w' => e = .returned (.bool r) ∧ Below w.heap.size w w' := by
  have HR0 := Aside0.mk hr0
  have HC0 := Aside0.mk hc0
  clear hr0 hc0
  have HB := Aside0.mk (Below.refl w.heap.size w)
  have H : ((pentroughlaw12_awake.f k).bind fun t348 => (if (l0.length : Int) > 200 then (some t348) else ((seg_All.f l0).bind fun t349 => (pentroughlaw12_SegJoins.l0 k l0 t348 t349 ([] : List Int) 0)))) = some r := h
  clear h
  replace H := Option.bind_eq_some_iff.mp H
  obtain ⟨t348, A20, H⟩ := H
  replace H : (if (l0.length : Int) > 200 then (some t348) else ((seg_All.f l0).bind fun t349 => (pentroughlaw12_SegJoins.l0 k l0 t348 t349 ([] : List Int) 0))) = some r := H
  have A2 := Aside0.mk A20
  clear A20
  by_cases c3 : (l0.length : Int) > 200
  · rw [if_pos c3] at H
    have c3b0 : decide (200 < (l0.length : Int)) = true := decide_eq_true c3
    have c3b1 : decide (200 < l0.length) = true := decide_eq_true (by omega)
    clear c3
    obtain rfl := Option.some.inj H
    go_enter Try.func7, Try.ntmps7
    go_wp2_with (first | ((with_reducible refine gate_callee (f := 27) rfl ?_); refine goesL_ (some 7) rfl rfl Try.func27 (by kernel_rfl) rfl #[] rfl (by (try simp only [List.map_toArray, List.map_cons, List.map_nil]); first | done | rfl | (simp only [List.length_drop, List.length_take]; rfl)) ?_; (with_reducible refine (pentroughlaw12_awake.calls k  t348 _ A2.out).mono ?_); rintro e w4 ⟨rfl, hb⟩; refine ⟨_, rfl, ?_⟩; have n0_ := Aside0.mk (below_step (by repeat (first | (with_reducible first | exact HB.out | apply below_alloc | apply pw_below_drewN | apply below_drew1) | exact HB.out)) hb); clear HB; have HB := n0_; clear n0_; (try clear hb); (try clear hb2); (try clear hk); (try clear hi)))
    go_ret
    exact ⟨by first | rfl | (simp [errW_none, errW_some] <;> rfl) | (simp [*, errW_none, errW_some] <;> rfl), by repeat (first | (with_reducible first | exact HB.out | apply below_alloc | apply pw_below_drewN | apply below_drew1) | exact HB.out)⟩
  · rw [if_neg c3] at H
    have c3b0 : decide (200 < (l0.length : Int)) = false := decide_eq_false c3
    have c3b1 : decide (200 < l0.length) = false := decide_eq_false (by omega)
    clear c3
    replace H := Option.bind_eq_some_iff.mp H
    obtain ⟨t349, A50, H⟩ := H
    replace H : (pentroughlaw12_SegJoins.l0 k l0 t348 t349 ([] : List Int) 0) = some r := H
    have A5 := Aside0.mk A50
    clear A50
    have H' := Aside0.mk H
    clear H
    go_enter Try.func7, Try.ntmps7
    go_wp2_with (first | ((with_reducible refine gate_callee (f := 27) rfl ?_); refine goesL_ (some 7) rfl rfl Try.func27 (by kernel_rfl) rfl #[] rfl (by (try simp only [List.map_toArray, List.map_cons, List.map_nil]); first | done | rfl | (simp only [List.length_drop, List.length_take]; rfl)) ?_; (with_reducible refine (pentroughlaw12_awake.calls k  t348 _ A2.out).mono ?_); rintro e w6 ⟨rfl, hb⟩; refine ⟨_, rfl, ?_⟩; have n0_ := Aside0.mk (below_step (by repeat (first | (with_reducible first | exact HB.out | apply below_alloc | apply pw_below_drewN | apply below_drew1) | exact HB.out)) hb); clear HB; have HB := n0_; clear n0_; (try clear hb); (try clear hb2); (try clear hk); (try clear hi)) | ((with_reducible refine gate_callee (f := 28) rfl ?_); refine goesL_ (some 13) rfl rfl Try.func28 (by kernel_rfl) rfl #[.slice A0 l0.length c0] rfl (by (try simp only [List.map_toArray, List.map_cons, List.map_nil]); first | done | rfl | (simp only [List.length_drop, List.length_take]; rfl)) ?_; (with_reducible refine (seg_All.calls _ _ l0 t349 _ ?side1 ?side2 A5.out).mono ?_); (case side1 => repeat (first | exact (Kd.C_below HR0.out HB.out) | (with_reducible refine Kd.C_alloc ?_ _) | (with_reducible refine Kd.C_drewN ?_ _) | (with_reducible refine Kd.C_drew ?_))); (case side2 => exact HC0.out); rintro e w7 ⟨v350, rfl, ho0, hb⟩; refine ⟨_, rfl, ?_⟩; have n0_ := Aside0.mk (Kd.V_lower (Kd.V_mono (ok' := fun k_ => True) ho0 (fun k_ hk_ => trivial)) (below_size (by repeat (first | (with_reducible first | exact HB.out | apply below_alloc | apply pw_below_drewN | apply below_drew1) | exact HB.out)))); have n1_ := Aside0.mk (below_step (by repeat (first | (with_reducible first | exact HB.out | apply below_alloc | apply pw_below_drewN | apply below_drew1) | exact HB.out)) hb); clear HB; have HO351 := n0_; have HB := n1_; clear n0_ n1_; (try clear hb); (try clear hb2); (try clear hk); (try clear hi); (try clear ho0)))
    go_loopg [5, 6] k (fun kq v5 v6 w' => ∃ (x5_1 : List Int) (x6_1 : Int), v6 = .int .i64 x6_1 ∧ Aside0 (pentroughlaw12_SegJoins.l0 kq l0 t348 t349 x5_1 x6_1 = some r) ∧ Aside0 (kq ≤ k) ∧ Aside0 (Kd.V (Kd.slice 3 (Kd.int .i64)) 22 w' w.heap.size (fun k_ => some k_ ≠ (v5 : Value).ownBlock) v350 t349) ∧ Aside0 (Kd.R (Kd.int .i64) 3 w' w.heap.size (fun _ => True) v5 x5_1) ∧ Aside0 (Below w.heap.size w w'))
    case atStart => exact ⟨(([] : List Int)), (0), (by first | rfl | (simp; done) | (simp [*]; done)), H', ⟨Nat.le_refl _⟩, ⟨by (with_reducible repeat (first | apply Kd.V_alloc | apply Kd.V_drewN | apply Kd.V_drew)); exact Kd.V_mono HO351.out (fun _ hk => (by simp [Value.ownBlock]))⟩, ⟨by first | exact Kd.R_nil _ _ _ _ _ | exact Kd.N_nil _ _ _ _ _ | exact Kd.V_nil _ _ _ _ _ | exact Kd.Q_nil _ _ _ _ _ | exact Kd.S_nil _ _ _ _ _⟩, ⟨by repeat (first | (with_reducible first | exact HB.out | apply below_alloc | apply pw_below_drewN | apply below_drew1) | exact HB.out)⟩⟩
    case round =>
      clear H'
      try clear c2
      try clear p2
      try clear c3
      try clear c3b0
      try clear c3b1
      try clear c7
      obtain ⟨x5_1, x6_1, rfl, HA, HK1, HO_4, HO_5, HB⟩ := hrel
      cases gk with
      | zero => exact absurd HA.out (by simp [pentroughlaw12_SegJoins.l0])
      | succ k1 =>
        have H := HA.out
        clear HA
        simp only [pentroughlaw12_SegJoins.l0] at H
        by_cases c8 : x6_1 < (t349.length : Int)
        · rw [if_pos c8] at H
          have c8b0 : decide (x6_1 < (t349.length : Int)) = true := decide_eq_true c8
          clear c8
          by_cases c9 : 0 ≤ x6_1
          · rw [if_pos c9] at H
            have c9b0 : decide (0 ≤ x6_1) = true := decide_eq_true c9
            clear c9
            by_cases c10 : ((rd_L2 t349 x6_1).length : Int) < 1
            · rw [if_pos c10] at H
              have c10b0 : decide (((rd_L2 t349 x6_1).length : Int) < 1) = true := decide_eq_true c10
              have c10b1 : decide ((rd_L2 t349 x6_1).length < 1) = true := decide_eq_true (by omega)
              clear c10
              obtain rfl := Option.some.inj H
              obtain ⟨Ao11, co11, eo11⟩ := Kd.V_slice HO_4.out
              subst eo11
              have p352 : 0 ≤ (x6_1 : Int) := of_decide_eq_true (by first | (with_reducible assumption) | assumption)
              have q352 : x6_1 < (t349.length : Int) := of_decide_eq_true (by first | (with_reducible assumption) | assumption)
              obtain ⟨ad352, A352_0, c352_0, e352, hx352_0, hl352_0, hi352_0⟩ := at_L2 (Kd.V_reads' HO_4.out).2.2 x6_1 p352 q352
              cases e352
              obtain ⟨ce352, hce352, hMe352, hcc352⟩ := Kd.V_get HO_4.out [] x6_1 p352 (by first | exact q352 | exact of_decide_eq_true (by first | (with_reducible assumption) | assumption) | (have e_ := (Kd.V_reads' HO_4.out).1; omega))
              obtain ⟨ua352_0, uc352_0, rfl, ul352_0, ge352_0⟩ := Kd.FK_slice_open hMe352
              have hv352_0 := hcc352 0 _ rfl
              rw [Nat.add_zero, show ((Kd.slice 3 (Kd.int .i64))).sz = 1 from rfl, Nat.mul_one] at hv352_0
              replace hv352_0 := Option.some.inj (hv352_0.symm.trans hx352_0)
              injection hv352_0 with hva_ hvn_ hvc_
              rw [hva_] at ge352_0
              rw [hvc_] at ul352_0
              have HL352_0 := Aside0.mk (show Kd.V (Kd.int .i64) 3 _ w.heap.size _ _ (rd_L2 t349 x6_1) from Kd.V_mk ul352_0 ge352_0)
              clear hva_ hvn_ hvc_ ge352_0 ul352_0
              clear hcc352 hce352
              have HR352_0 := Aside0.mk hi352_0
              have HC352_0 := Aside0.mk hl352_0
              clear hi352_0 hl352_0
              replace p352 := eq_true p352
              replace q352 := eq_true q352
              go_wp2
              go_ret
              exact ⟨by first | rfl | (simp [errW_none, errW_some] <;> rfl) | (simp [*, errW_none, errW_some] <;> rfl), by repeat (first | (with_reducible first | exact HB.out | apply below_alloc | apply pw_below_drewN | apply below_drew1) | exact HB.out)⟩
            · rw [if_neg c10] at H
              have c10b0 : decide (((rd_L2 t349 x6_1).length : Int) < 1) = false := decide_eq_false c10
              have c10b1 : decide ((rd_L2 t349 x6_1).length < 1) = false := decide_eq_false (by omega)
              clear c10
              by_cases c12 : ((rd_L2 t349 x6_1).length : Int) > 32
              · rw [if_pos c12] at H
                have c12b0 : decide (32 < ((rd_L2 t349 x6_1).length : Int)) = true := decide_eq_true c12
                have c12b1 : decide (32 < (rd_L2 t349 x6_1).length) = true := decide_eq_true (by omega)
                clear c12
                obtain rfl := Option.some.inj H
                obtain ⟨Ao13, co13, eo13⟩ := Kd.V_slice HO_4.out
                subst eo13
                have p352 : 0 ≤ (x6_1 : Int) := of_decide_eq_true (by first | (with_reducible assumption) | assumption)
                have q352 : x6_1 < (t349.length : Int) := of_decide_eq_true (by first | (with_reducible assumption) | assumption)
                obtain ⟨ad352, A352_0, c352_0, e352, hx352_0, hl352_0, hi352_0⟩ := at_L2 (Kd.V_reads' HO_4.out).2.2 x6_1 p352 q352
                cases e352
                obtain ⟨ce352, hce352, hMe352, hcc352⟩ := Kd.V_get HO_4.out [] x6_1 p352 (by first | exact q352 | exact of_decide_eq_true (by first | (with_reducible assumption) | assumption) | (have e_ := (Kd.V_reads' HO_4.out).1; omega))
                obtain ⟨ua352_0, uc352_0, rfl, ul352_0, ge352_0⟩ := Kd.FK_slice_open hMe352
                have hv352_0 := hcc352 0 _ rfl
                rw [Nat.add_zero, show ((Kd.slice 3 (Kd.int .i64))).sz = 1 from rfl, Nat.mul_one] at hv352_0
                replace hv352_0 := Option.some.inj (hv352_0.symm.trans hx352_0)
                injection hv352_0 with hva_ hvn_ hvc_
                rw [hva_] at ge352_0
                rw [hvc_] at ul352_0
                have HL352_0 := Aside0.mk (show Kd.V (Kd.int .i64) 3 _ w.heap.size _ _ (rd_L2 t349 x6_1) from Kd.V_mk ul352_0 ge352_0)
                clear hva_ hvn_ hvc_ ge352_0 ul352_0
                clear hcc352 hce352
                have HR352_0 := Aside0.mk hi352_0
                have HC352_0 := Aside0.mk hl352_0
                clear hi352_0 hl352_0
                replace p352 := eq_true p352
                replace q352 := eq_true q352
                have p353 : 0 ≤ (x6_1 : Int) := of_decide_eq_true (by first | (with_reducible assumption) | assumption)
                have q353 : x6_1 < (t349.length : Int) := of_decide_eq_true (by first | (with_reducible assumption) | assumption)
                obtain ⟨ad353, A353_0, c353_0, e353, hx353_0, hl353_0, hi353_0⟩ := at_L2 (Kd.V_reads' HO_4.out).2.2 x6_1 p353 q353
                obtain rfl : ad352 = ad353 := (by injection e353)
                obtain ⟨ce353, hce353, hMe353, hcc353⟩ := Kd.V_get HO_4.out [] x6_1 p353 (by first | exact q353 | exact of_decide_eq_true (by first | (with_reducible assumption) | assumption) | (have e_ := (Kd.V_reads' HO_4.out).1; omega))
                obtain ⟨ua353_0, uc353_0, rfl, ul353_0, ge353_0⟩ := Kd.FK_slice_open hMe353
                have hv353_0 := hcc353 0 _ rfl
                rw [Nat.add_zero, show ((Kd.slice 3 (Kd.int .i64))).sz = 1 from rfl, Nat.mul_one] at hv353_0
                replace hv353_0 := Option.some.inj (hv353_0.symm.trans hx353_0)
                injection hv353_0 with hva_ hvn_ hvc_
                rw [hva_] at ge353_0
                rw [hvc_] at ul353_0
                have HL353_0 := Aside0.mk (show Kd.V (Kd.int .i64) 3 _ w.heap.size _ _ (rd_L2 t349 x6_1) from Kd.V_mk ul353_0 ge353_0)
                clear hva_ hvn_ hvc_ ge353_0 ul353_0
                clear hcc353 hce353
                have HR353_0 := Aside0.mk hi353_0
                have HC353_0 := Aside0.mk hl353_0
                clear hi353_0 hl353_0
                replace p353 := eq_true p353
                replace q353 := eq_true q353
                have ea_ := Option.some.inj (hx352_0.symm.trans hx353_0)
                injection ea_ with ea_ en_ ec_
                subst ea_
                subst ec_
                clear en_
                go_wp2
                go_ret
                exact ⟨by first | rfl | (simp [errW_none, errW_some] <;> rfl) | (simp [*, errW_none, errW_some] <;> rfl), by repeat (first | (with_reducible first | exact HB.out | apply below_alloc | apply pw_below_drewN | apply below_drew1) | exact HB.out)⟩
              · rw [if_neg c12] at H
                have c12b0 : decide (32 < ((rd_L2 t349 x6_1).length : Int)) = false := decide_eq_false c12
                have c12b1 : decide (32 < (rd_L2 t349 x6_1).length) = false := decide_eq_false (by omega)
                clear c12
                by_cases c14 : x5_1.length + (rd_L2 t349 x6_1).length < 17592186044416
                · rw [if_pos c14] at H
                  have LMc14 := Aside0.mk c14
                  clear c14
                  obtain ⟨y355, hy355⟩ : ∃ y_ : List Int, y_ = (x5_1 ++ (rd_L2 t349 x6_1)) := ⟨_, rfl⟩
                  replace H : (pentroughlaw12_SegJoins.l0 k1 l0 t348 t349 y355 (wrap64 (x6_1 + 1))) = some r := by first | (rw [hy355]; with_reducible exact H) | (have H2_ := (Option.bind_some _ _).symm.trans H; rw [hy355]; with_reducible exact H2_) | (have H2_ := (Option.bind_some _ _).symm.trans H; with_reducible exact H2_) | with_reducible exact H | (rw [hy355]; exact H) | exact H
                  have Ny355 := Aside0.mk hy355
                  clear hy355
                  have H' := Aside0.mk H
                  clear H
                  obtain ⟨Ao15, co15, eo15⟩ := Kd.V_slice HO_4.out
                  subst eo15
                  have p352 : 0 ≤ (x6_1 : Int) := of_decide_eq_true (by first | (with_reducible assumption) | assumption)
                  have q352 : x6_1 < (t349.length : Int) := of_decide_eq_true (by first | (with_reducible assumption) | assumption)
                  obtain ⟨ad352, A352_0, c352_0, e352, hx352_0, hl352_0, hi352_0⟩ := at_L2 (Kd.V_reads' HO_4.out).2.2 x6_1 p352 q352
                  cases e352
                  obtain ⟨ce352, hce352, hMe352, hcc352⟩ := Kd.V_get HO_4.out [] x6_1 p352 (by first | exact q352 | exact of_decide_eq_true (by first | (with_reducible assumption) | assumption) | (have e_ := (Kd.V_reads' HO_4.out).1; omega))
                  obtain ⟨ua352_0, uc352_0, rfl, ul352_0, ge352_0⟩ := Kd.FK_slice_open hMe352
                  have hv352_0 := hcc352 0 _ rfl
                  rw [Nat.add_zero, show ((Kd.slice 3 (Kd.int .i64))).sz = 1 from rfl, Nat.mul_one] at hv352_0
                  replace hv352_0 := Option.some.inj (hv352_0.symm.trans hx352_0)
                  injection hv352_0 with hva_ hvn_ hvc_
                  rw [hva_] at ge352_0
                  rw [hvc_] at ul352_0
                  have HL352_0 := Aside0.mk (show Kd.V (Kd.int .i64) 3 _ w.heap.size _ _ (rd_L2 t349 x6_1) from Kd.V_mk ul352_0 ge352_0)
                  clear hva_ hvn_ hvc_ ge352_0 ul352_0
                  clear hcc352 hce352
                  have HR352_0 := Aside0.mk hi352_0
                  have HC352_0 := Aside0.mk hl352_0
                  clear hi352_0 hl352_0
                  replace p352 := eq_true p352
                  replace q352 := eq_true q352
                  have p353 : 0 ≤ (x6_1 : Int) := of_decide_eq_true (by first | (with_reducible assumption) | assumption)
                  have q353 : x6_1 < (t349.length : Int) := of_decide_eq_true (by first | (with_reducible assumption) | assumption)
                  obtain ⟨ad353, A353_0, c353_0, e353, hx353_0, hl353_0, hi353_0⟩ := at_L2 (Kd.V_reads' HO_4.out).2.2 x6_1 p353 q353
                  obtain rfl : ad352 = ad353 := (by injection e353)
                  obtain ⟨ce353, hce353, hMe353, hcc353⟩ := Kd.V_get HO_4.out [] x6_1 p353 (by first | exact q353 | exact of_decide_eq_true (by first | (with_reducible assumption) | assumption) | (have e_ := (Kd.V_reads' HO_4.out).1; omega))
                  obtain ⟨ua353_0, uc353_0, rfl, ul353_0, ge353_0⟩ := Kd.FK_slice_open hMe353
                  have hv353_0 := hcc353 0 _ rfl
                  rw [Nat.add_zero, show ((Kd.slice 3 (Kd.int .i64))).sz = 1 from rfl, Nat.mul_one] at hv353_0
                  replace hv353_0 := Option.some.inj (hv353_0.symm.trans hx353_0)
                  injection hv353_0 with hva_ hvn_ hvc_
                  rw [hva_] at ge353_0
                  rw [hvc_] at ul353_0
                  have HL353_0 := Aside0.mk (show Kd.V (Kd.int .i64) 3 _ w.heap.size _ _ (rd_L2 t349 x6_1) from Kd.V_mk ul353_0 ge353_0)
                  clear hva_ hvn_ hvc_ ge353_0 ul353_0
                  clear hcc353 hce353
                  have HR353_0 := Aside0.mk hi353_0
                  have HC353_0 := Aside0.mk hl353_0
                  clear hi353_0 hl353_0
                  replace p353 := eq_true p353
                  replace q353 := eq_true q353
                  have ea_ := Option.some.inj (hx352_0.symm.trans hx353_0)
                  injection ea_ with ea_ en_ ec_
                  subst ea_
                  subst ec_
                  clear en_
                  have p354 : 0 ≤ (x6_1 : Int) := of_decide_eq_true (by first | (with_reducible assumption) | assumption)
                  have q354 : x6_1 < (t349.length : Int) := of_decide_eq_true (by first | (with_reducible assumption) | assumption)
                  obtain ⟨ad354, A354_0, c354_0, e354, hx354_0, hl354_0, hi354_0⟩ := at_L2 (Kd.V_reads' HO_4.out).2.2 x6_1 p354 q354
                  obtain rfl : ad352 = ad354 := (by injection e354)
                  obtain ⟨ce354, hce354, hMe354, hcc354⟩ := Kd.V_get HO_4.out [] x6_1 p354 (by first | exact q354 | exact of_decide_eq_true (by first | (with_reducible assumption) | assumption) | (have e_ := (Kd.V_reads' HO_4.out).1; omega))
                  obtain ⟨ua354_0, uc354_0, rfl, ul354_0, ge354_0⟩ := Kd.FK_slice_open hMe354
                  have hv354_0 := hcc354 0 _ rfl
                  rw [Nat.add_zero, show ((Kd.slice 3 (Kd.int .i64))).sz = 1 from rfl, Nat.mul_one] at hv354_0
                  replace hv354_0 := Option.some.inj (hv354_0.symm.trans hx354_0)
                  injection hv354_0 with hva_ hvn_ hvc_
                  rw [hva_] at ge354_0
                  rw [hvc_] at ul354_0
                  have HL354_0 := Aside0.mk (show Kd.V (Kd.int .i64) 3 _ w.heap.size _ _ (rd_L2 t349 x6_1) from Kd.V_mk ul354_0 ge354_0)
                  clear hva_ hvn_ hvc_ ge354_0 ul354_0
                  clear hcc354 hce354
                  have HR354_0 := Aside0.mk hi354_0
                  have HC354_0 := Aside0.mk hl354_0
                  clear hi354_0 hl354_0
                  replace p354 := eq_true p354
                  replace q354 := eq_true q354
                  have ea_ := Option.some.inj (hx352_0.symm.trans hx354_0)
                  injection ea_ with ea_ en_ ec_
                  subst ea_
                  subst ec_
                  clear en_
                  go_wp2_with (first | ((with_reducible refine gate_builtin (b := .append) (xs := #[.tmp 34, .tmp 38]) rfl ?_); (try (refine gate_guard (by rfl) ?_; dsimp only)); at_builtin; refine Kd.R_append_rows (Kd.int .i64) (w0 := w) w.heap.size rfl (.tmp 34) (.tmp 38) 22 3 (.int .i64 0) 8 rfl Try.underlying22 info3 rfl (by decide) (by omega) u5 x5_1 (rd_L2 t349 x6_1) _ _ _ (fun _ => True) (fun _ => False) rfl rfl ?aO ?aR (fun _ _ h => h) (fun _ h => h.elim) ?aF ?aB ?aS ?aL ?_; (case aR => repeat (first | exact (by repeat (first | (with_reducible exact HR354_0.out) | (with_reducible refine Kd.C_alloc ?_ _) | (with_reducible refine Kd.C_drewN ?_ _) | (with_reducible refine Kd.C_drew ?_) | exact HR354_0.out)) | (with_reducible refine Kd.C_alloc ?_ _) | (with_reducible refine Kd.C_drewN ?_ _) | (with_reducible refine Kd.C_drew ?_))); (case aB => exact (by repeat (first | (with_reducible first | exact HB.out | apply below_alloc | apply pw_below_drewN | apply below_drew1) | exact HB.out))); (case aF => exact (fun _ _ => trivial)); (case aO => exact (by (with_reducible repeat (first | apply Kd.R_alloc | apply Kd.R_drewN | apply Kd.R_drew)); exact HO_5.out)); (case aS => exact (below_size (by repeat (first | (with_reducible first | exact HB.out | apply below_alloc | apply pw_below_drewN | apply below_drew1) | exact HB.out)))); (case aL => have := LMc14.out; omega); intro v356 w16 ho hb hg hat; rw [← Ny355.out] at ho; have n0_ := Aside0.mk (Kd.V_afterv (ok := (fun _ => True)) (by (with_reducible repeat (first | apply Kd.V_alloc | apply Kd.V_drewN | apply Kd.V_drew)); exact Kd.V_mono HO_4.out (fun _ hk => ⟨trivial, hk⟩)) hg hat); have n1_ := Aside0.mk (Kd.V_afterv (ok := (fun _ => True)) (by (with_reducible repeat (first | apply Kd.V_alloc | apply Kd.V_drewN | apply Kd.V_drew)); exact Kd.V_mono HL352_0.out (fun _ hk => ⟨trivial, hk⟩)) hg hat); have n2_ := Aside0.mk (Kd.V_afterv (ok := (fun _ => True)) (by (with_reducible repeat (first | apply Kd.V_alloc | apply Kd.V_drewN | apply Kd.V_drew)); exact Kd.V_mono HL353_0.out (fun _ hk => ⟨trivial, hk⟩)) hg hat); have n3_ := Aside0.mk (Kd.V_afterv (ok := (fun _ => True)) (by (with_reducible repeat (first | apply Kd.V_alloc | apply Kd.V_drewN | apply Kd.V_drew)); exact Kd.V_mono HL354_0.out (fun _ hk => ⟨trivial, hk⟩)) hg hat); have n4_ := Aside0.mk (hb); have n5_ := Aside0.mk (ho); clear HO_4; clear HL352_0; clear HL353_0; clear HL354_0; clear HB; clear HO_5; have HO_4 := n0_; have HL352_0 := n1_; have HL353_0 := n2_; have HL354_0 := n3_; have HB := n4_; have HO357 := n5_; clear n0_ n1_ n2_ n3_ n4_ n5_; clear ho hb hg hat))
                  go_roundg k1
                  case measure => have := HK1.out; omega
                  case rel => exact ⟨(y355), (wrap64 (x6_1 + 1)), (by first | rfl | (simp; done) | (simp [*]; done)), H', ⟨by have := HK1.out; omega⟩, ⟨by (with_reducible repeat (first | apply Kd.V_alloc | apply Kd.V_drewN | apply Kd.V_drew)); exact Kd.V_mono HO_4.out (fun _ hk => hk.2)⟩, ⟨by (with_reducible repeat (first | apply Kd.R_alloc | apply Kd.R_drewN | apply Kd.R_drew)); exact HO357.out⟩, ⟨by repeat (first | (with_reducible first | exact HB.out | apply below_alloc | apply pw_below_drewN | apply below_drew1) | exact HB.out)⟩⟩
                · rw [if_neg c14] at H
                  exact absurd H (by simp)
          · rw [if_neg c9] at H
            exact absurd H (by simp)
        · rw [if_neg c8] at H
          have c8b0 : decide (x6_1 < (t349.length : Int)) = false := decide_eq_false c8
          clear c8
          by_cases c17 : t348 = true
          · subst c17
            have H1 : ((pentroughref01_Same.f k1 x5_1 l0).bind fun t358 => (some t358)) = some r := by rw [if_pos rfl] at H; exact H
            clear H
            have H := H1
            clear H1
            replace H := Option.bind_eq_some_iff.mp H
            obtain ⟨t358, A180, H⟩ := H
            replace H : (some t358) = some r := H
            have A18 := Aside0.mk A180
            clear A180
            obtain rfl := Option.some.inj H
            obtain ⟨Ao19, co19, eo19⟩ := Kd.V_slice HO_4.out
            subst eo19
            obtain ⟨Ao20, co20, eo20⟩ := Kd.R_slice HO_5.out
            subst eo20
            go_wp2_with (first | (go_at_call 29; (with_reducible refine (pentroughref01_Same.calls k1 _ _ x5_1 _ _ l0 t358 _ ?side1 ?side2 ?side3 ?side4 A18.out).mono ?_); (case side1 => repeat (first | exact (Kd.R_reads' HO_5.out).2.2 | (with_reducible refine Kd.C_alloc ?_ _) | (with_reducible refine Kd.C_drewN ?_ _) | (with_reducible refine Kd.C_drew ?_))); (case side2 => exact (Kd.R_reads' HO_5.out).2.1); (case side3 => repeat (first | exact (Kd.C_below HR0.out HB.out) | (with_reducible refine Kd.C_alloc ?_ _) | (with_reducible refine Kd.C_drewN ?_ _) | (with_reducible refine Kd.C_drew ?_))); (case side4 => exact HC0.out); rintro e w' ⟨rfl, ⟨nd, rfl⟩⟩))
            go_ret
            exact ⟨by first | rfl | (simp [errW_none, errW_some] <;> rfl) | (simp [*, errW_none, errW_some] <;> rfl), by repeat (first | (with_reducible first | exact HB.out | apply below_alloc | apply pw_below_drewN | apply below_drew1) | exact HB.out)⟩
          · replace c17 := Bool.eq_false_iff.mpr c17
            subst c17
            have H1 : (some false) = some r := by rw [if_neg (show ¬ (false = true) by decide)] at H; exact H
            clear H
            have H := H1
            clear H1
            obtain rfl := Option.some.inj H
            obtain ⟨Ao21, co21, eo21⟩ := Kd.V_slice HO_4.out
            subst eo21
            go_wp2
            go_ret
            exact ⟨by first | rfl | (simp [errW_none, errW_some] <;> rfl) | (simp [*, errW_none, errW_some] <;> rfl), by repeat (first | (with_reducible first | exact HB.out | apply below_alloc | apply pw_below_drewN | apply below_drew1) | exact HB.out)⟩

/-- THE ONE PURE STATEMENT of pentroughlaw12_SegJoins: yours. -/
def pentroughlaw12_SegJoins.Pure : Prop := ∀ (l0 : List Int), l0.length ≤ maxLen → l0.length * 8 ≤ 140737488351232 → (∀ x ∈ l0, (Lit.int .i64 x).wf = true) → ∃ k, pentroughlaw12_SegJoins.f k l0 = some true
theorem pentroughlaw12_SegJoins.walk (P : pentroughlaw12_SegJoins.Pure) (a0 : Option Addr) (len0 cap0 : Nat) (z0 : List Int) (w : World) (w0 : (a0 = none ∧ len0 = 0 ∧ cap0 = 0 ∧ z0 = []) ∨ ∃ x, a0 = some x ∧ len0 ≤ cap0 ∧ cap0 ≤ maxLen ∧ z0.length = cap0 ∧ (∀ i, i < z0.length → w.cell? (x.add i) = some (.int .i64 (z0.getD i 0))) ∧ ∀ n ∈ z0, (Lit.int .i64 n).wf = true) (y0 : len0 * 8 ≤ 140737488351232) :
    Calls Try.prog 7 #[.slice a0 len0 cap0] w fun e w' => e = .returned (.bool true) ∧ Below w.heap.size w w' := by
  obtain ⟨l0, rfl, hr0, hm0, hw0, hc0⟩ := ReadsInt.ofRowC w0
  obtain ⟨k, h⟩ := P l0 hm0 y0 hw0
  refine (pentroughlaw12_SegJoins.calls k _ _ l0 true w (Kd.C_of_reads (d := (0 : Int)) (h1 := fun _ => rfl) hr0) hc0 h).mono ?_
  rintro e w' ⟨rfl, hd⟩
  exact ⟨rfl, hd⟩

end Go.Proofs.Ytcabijajjceghaa.G
