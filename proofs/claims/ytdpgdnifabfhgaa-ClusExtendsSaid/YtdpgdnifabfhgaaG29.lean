-- PRINTED by print.py (a twelfth state) out of the translation. Not trusted: Lean checks it.
import Derived.Test.YtdpgdnifabfhgaaG0
import Derived.Test.YtdpgdnifabfhgaaG3
import Derived.Test.YtdpgdnifabfhgaaG15
import Derived.Test.YtdpgdnifabfhgaaG16
namespace Go.Proofs.Ytdpgdnifabfhgaa.G
open Go.RowKit Go.Proofs.YtdpgdnifabfhgaaW.PrintWords Go.Proofs.YtdpgdnifabfhgaaW.PrintLast Go.Proofs.YtdpgdnifabfhgaaW.PrintMore
attribute [local go_sem] max2_int min2_int max_two min_two max_three min_three max_four min_four   -- for this text's walks alone
set_option linter.unusedVariables false
set_option linter.unusedSimpArgs false

/-! ### pentroughlaw11_ClusExtends: function 13 -/
mutual
def pentroughlaw11_ClusExtends.l0 : Nat → List Int → Bool → List Bool → Int → Option (Bool)
  | 0, _, _, _, _ => none
  | k + 1, x0, x3, x4, x5 => if x5 < (x0.length : Int) then (if 0 ≤ x5 then ((prop_Gcb.f k (rd x0 x5)).bind fun t381 => (if x5 = 0 then (if 0 < (x4.length : Int) then (if rdOf false x4 0 = true then (some false) else (pentroughlaw11_ClusExtends.l0 k x0 x3 x4 (wrap64 (x5 + 1)))) else (none)) else (if 0 ≤ (wrap64 (x5 - 1)) then (if (wrap64 (x5 - 1)) < (x0.length : Int) then ((prop_Gcb.f k (rd x0 (wrap64 (x5 - 1)))).bind fun t384 => (if t384 ≥ 1 then (pentroughlaw11_ClusExtends.j1 k x0 x3 x4 x5 t381 t384 (decide (t384 ≤ 3))) else (pentroughlaw11_ClusExtends.j1 k x0 x3 x4 x5 t381 t384 false))) else (none)) else (none)))) else (none)) else (some x3)
def pentroughlaw11_ClusExtends.j1 : Nat → List Int → Bool → List Bool → Int → Int → Int → Bool → Option (Bool)
  | 0, _, _, _, _, _, _, _ => none
  | k + 1, x0, x3, x4, x5, x6, x7, x8 => if x6 ≥ 1 then (pentroughlaw11_ClusExtends.j2 k x0 x3 x4 x5 x6 x7 x8 (decide (x6 ≤ 3))) else (pentroughlaw11_ClusExtends.j2 k x0 x3 x4 x5 x6 x7 x8 false)
def pentroughlaw11_ClusExtends.j2 : Nat → List Int → Bool → List Bool → Int → Int → Int → Bool → Bool → Option (Bool)
  | 0, _, _, _, _, _, _, _, _ => none
  | k + 1, x0, x3, x4, x5, x6, x7, x8, x9 => if x7 = 1 then (pentroughlaw11_ClusExtends.j3 k x0 x3 x4 x5 x6 x8 x9 (x6 == 2)) else (pentroughlaw11_ClusExtends.j3 k x0 x3 x4 x5 x6 x8 x9 false)
def pentroughlaw11_ClusExtends.j3 : Nat → List Int → Bool → List Bool → Int → Int → Bool → Bool → Bool → Option (Bool)
  | 0, _, _, _, _, _, _, _, _ => none
  | k + 1, x0, x3, x4, x5, x6, x8, x9, x61 => if x61 = true then (if 0 ≤ x5 then (if x5 < (x4.length : Int) then (if rdOf false x4 x5 = true then (some false) else (pentroughlaw11_ClusExtends.l0 k x0 x3 x4 (wrap64 (x5 + 1)))) else (none)) else (none)) else (if x8 = true then (if 0 ≤ x5 then (if x5 < (x4.length : Int) then (if rdOf false x4 x5 = true then (pentroughlaw11_ClusExtends.l0 k x0 x3 x4 (wrap64 (x5 + 1))) else (some false)) else (none)) else (none)) else (if x9 = true then (if 0 ≤ x5 then (if x5 < (x4.length : Int) then (if rdOf false x4 x5 = true then (if x6 = 4 then (some false) else (if x6 = 5 then (some false) else (if x6 = 8 then (some false) else (if x5 < (x0.length : Int) then ((prop_Mark.f (rd x0 x5)).bind fun t392 => (if t392 = true then (some false) else (pentroughlaw11_ClusExtends.l0 k x0 x3 x4 (wrap64 (x5 + 1))))) else (none))))) else (some false)) else (none)) else (none)) else (if x6 = 4 then (if 0 ≤ x5 then (if x5 < (x4.length : Int) then (if rdOf false x4 x5 = true then (some false) else (pentroughlaw11_ClusExtends.l0 k x0 x3 x4 (wrap64 (x5 + 1)))) else (none)) else (none)) else (if x6 = 5 then (if 0 ≤ x5 then (if x5 < (x4.length : Int) then (if rdOf false x4 x5 = true then (some false) else (pentroughlaw11_ClusExtends.l0 k x0 x3 x4 (wrap64 (x5 + 1)))) else (none)) else (none)) else (if x6 = 8 then (if 0 ≤ x5 then (if x5 < (x4.length : Int) then (if rdOf false x4 x5 = true then (some false) else (pentroughlaw11_ClusExtends.l0 k x0 x3 x4 (wrap64 (x5 + 1)))) else (none)) else (none)) else (if 0 ≤ x5 then (if x5 < (x0.length : Int) then ((prop_Mark.f (rd x0 x5)).bind fun t398 => (if t398 = true then (if x5 < (x4.length : Int) then (if rdOf false x4 x5 = true then (some false) else (pentroughlaw11_ClusExtends.l0 k x0 x3 x4 (wrap64 (x5 + 1)))) else (none)) else (pentroughlaw11_ClusExtends.l0 k x0 x3 x4 (wrap64 (x5 + 1))))) else (none)) else (none)))))))
end
def pentroughlaw11_ClusExtends.f (k : Nat) (l0 : List Int) : Option (Bool) := (pentroughlaw11_awake.f k).bind fun t376 => (if (l0.length : Int) > 200 then (some t376) else ((clus_Cuts.f k l0).bind fun t377 => (if (t377.length : Int) = (l0.length : Int) then (pentroughlaw11_ClusExtends.l0 k l0 t376 t377 0) else (some false))))
theorem pentroughlaw11_ClusExtends.mono_l : ∀ k, (∀ y0 y1 y2 y3, LeO (pentroughlaw11_ClusExtends.l0 k y0 y1 y2 y3) (pentroughlaw11_ClusExtends.l0 (k + 1) y0 y1 y2 y3)) ∧ (∀ y0 y1 y2 y3 y4 y5 y6, LeO (pentroughlaw11_ClusExtends.j1 k y0 y1 y2 y3 y4 y5 y6) (pentroughlaw11_ClusExtends.j1 (k + 1) y0 y1 y2 y3 y4 y5 y6)) ∧ (∀ y0 y1 y2 y3 y4 y5 y6 y7, LeO (pentroughlaw11_ClusExtends.j2 k y0 y1 y2 y3 y4 y5 y6 y7) (pentroughlaw11_ClusExtends.j2 (k + 1) y0 y1 y2 y3 y4 y5 y6 y7)) ∧ (∀ y0 y1 y2 y3 y4 y5 y6 y7, LeO (pentroughlaw11_ClusExtends.j3 k y0 y1 y2 y3 y4 y5 y6 y7) (pentroughlaw11_ClusExtends.j3 (k + 1) y0 y1 y2 y3 y4 y5 y6 y7))
  | 0 => ⟨fun _ _ _ _ r h => by simp [pentroughlaw11_ClusExtends.l0] at h, fun _ _ _ _ _ _ _ r h => by simp [pentroughlaw11_ClusExtends.j1] at h, fun _ _ _ _ _ _ _ _ r h => by simp [pentroughlaw11_ClusExtends.j2] at h, fun _ _ _ _ _ _ _ _ r h => by simp [pentroughlaw11_ClusExtends.j3] at h⟩
  | k + 1 => by
    obtain ⟨ih0, ih1, ih2, ih3⟩ := pentroughlaw11_ClusExtends.mono_l k
    refine ⟨?_, ?_, ?_, ?_⟩
    · intro y0 y1 y2 y3
      unfold pentroughlaw11_ClusExtends.l0
      repeat' first
      | (with_reducible exact ih0 _ _ _ _)
      | (with_reducible exact ih1 _ _ _ _ _ _ _)
      | (with_reducible exact ih2 _ _ _ _ _ _ _ _)
      | (with_reducible exact ih3 _ _ _ _ _ _ _ _)
      | (with_reducible exact clus_Cuts.mono _ _)
      | (with_reducible exact pentroughlaw11_awake.mono _)
      | (with_reducible exact prop_Gcb.mono _ _)
      | (with_reducible exact LeO.refl _)
      | (with_reducible exact LeO.none _)
      | (with_reducible refine LeO.ite ?_ ?_)
      | (with_reducible refine LeO.bind ?_ (fun _ => ?_))
      | exact ih0 _ _ _ _
      | exact ih1 _ _ _ _ _ _ _
      | exact ih2 _ _ _ _ _ _ _ _
      | exact ih3 _ _ _ _ _ _ _ _
      | exact clus_Cuts.mono _ _
      | exact pentroughlaw11_awake.mono _
      | exact prop_Gcb.mono _ _
      | exact LeO.none _
      | refine LeO.ite ?_ ?_
      | refine LeO.bind ?_ (fun _ => ?_)
    · intro y0 y1 y2 y3 y4 y5 y6
      unfold pentroughlaw11_ClusExtends.j1
      repeat' first
      | (with_reducible exact ih0 _ _ _ _)
      | (with_reducible exact ih1 _ _ _ _ _ _ _)
      | (with_reducible exact ih2 _ _ _ _ _ _ _ _)
      | (with_reducible exact ih3 _ _ _ _ _ _ _ _)
      | (with_reducible exact clus_Cuts.mono _ _)
      | (with_reducible exact pentroughlaw11_awake.mono _)
      | (with_reducible exact prop_Gcb.mono _ _)
      | (with_reducible exact LeO.refl _)
      | (with_reducible exact LeO.none _)
      | (with_reducible refine LeO.ite ?_ ?_)
      | (with_reducible refine LeO.bind ?_ (fun _ => ?_))
      | exact ih0 _ _ _ _
      | exact ih1 _ _ _ _ _ _ _
      | exact ih2 _ _ _ _ _ _ _ _
      | exact ih3 _ _ _ _ _ _ _ _
      | exact clus_Cuts.mono _ _
      | exact pentroughlaw11_awake.mono _
      | exact prop_Gcb.mono _ _
      | exact LeO.none _
      | refine LeO.ite ?_ ?_
      | refine LeO.bind ?_ (fun _ => ?_)
    · intro y0 y1 y2 y3 y4 y5 y6 y7
      unfold pentroughlaw11_ClusExtends.j2
      repeat' first
      | (with_reducible exact ih0 _ _ _ _)
      | (with_reducible exact ih1 _ _ _ _ _ _ _)
      | (with_reducible exact ih2 _ _ _ _ _ _ _ _)
      | (with_reducible exact ih3 _ _ _ _ _ _ _ _)
      | (with_reducible exact clus_Cuts.mono _ _)
      | (with_reducible exact pentroughlaw11_awake.mono _)
      | (with_reducible exact prop_Gcb.mono _ _)
      | (with_reducible exact LeO.refl _)
      | (with_reducible exact LeO.none _)
      | (with_reducible refine LeO.ite ?_ ?_)
      | (with_reducible refine LeO.bind ?_ (fun _ => ?_))
      | exact ih0 _ _ _ _
      | exact ih1 _ _ _ _ _ _ _
      | exact ih2 _ _ _ _ _ _ _ _
      | exact ih3 _ _ _ _ _ _ _ _
      | exact clus_Cuts.mono _ _
      | exact pentroughlaw11_awake.mono _
      | exact prop_Gcb.mono _ _
      | exact LeO.none _
      | refine LeO.ite ?_ ?_
      | refine LeO.bind ?_ (fun _ => ?_)
    · intro y0 y1 y2 y3 y4 y5 y6 y7
      unfold pentroughlaw11_ClusExtends.j3
      repeat' first
      | (with_reducible exact ih0 _ _ _ _)
      | (with_reducible exact ih1 _ _ _ _ _ _ _)
      | (with_reducible exact ih2 _ _ _ _ _ _ _ _)
      | (with_reducible exact ih3 _ _ _ _ _ _ _ _)
      | (with_reducible exact clus_Cuts.mono _ _)
      | (with_reducible exact pentroughlaw11_awake.mono _)
      | (with_reducible exact prop_Gcb.mono _ _)
      | (with_reducible exact LeO.refl _)
      | (with_reducible exact LeO.none _)
      | (with_reducible refine LeO.ite ?_ ?_)
      | (with_reducible refine LeO.bind ?_ (fun _ => ?_))
      | exact ih0 _ _ _ _
      | exact ih1 _ _ _ _ _ _ _
      | exact ih2 _ _ _ _ _ _ _ _
      | exact ih3 _ _ _ _ _ _ _ _
      | exact clus_Cuts.mono _ _
      | exact pentroughlaw11_awake.mono _
      | exact prop_Gcb.mono _ _
      | exact LeO.none _
      | refine LeO.ite ?_ ?_
      | refine LeO.bind ?_ (fun _ => ?_)
theorem pentroughlaw11_ClusExtends.mono : ∀ a0 k, LeO (pentroughlaw11_ClusExtends.f k a0) (pentroughlaw11_ClusExtends.f (k + 1) a0) := by
  intro a0 k
  obtain ⟨ih0, ih1, ih2, ih3⟩ := pentroughlaw11_ClusExtends.mono_l k
  unfold pentroughlaw11_ClusExtends.f
  repeat' first
      | (with_reducible exact ih0 _ _ _ _)
      | (with_reducible exact ih1 _ _ _ _ _ _ _)
      | (with_reducible exact ih2 _ _ _ _ _ _ _ _)
      | (with_reducible exact ih3 _ _ _ _ _ _ _ _)
      | (with_reducible exact clus_Cuts.mono _ _)
      | (with_reducible exact pentroughlaw11_awake.mono _)
      | (with_reducible exact prop_Gcb.mono _ _)
      | (with_reducible exact LeO.refl _)
      | (with_reducible exact LeO.none _)
      | (with_reducible refine LeO.ite ?_ ?_)
      | (with_reducible refine LeO.bind ?_ (fun _ => ?_))
      | exact ih0 _ _ _ _
      | exact ih1 _ _ _ _ _ _ _
      | exact ih2 _ _ _ _ _ _ _ _
      | exact ih3 _ _ _ _ _ _ _ _
      | exact clus_Cuts.mono _ _
      | exact pentroughlaw11_awake.mono _
      | exact prop_Gcb.mono _ _
      | exact LeO.none _
      | refine LeO.ite ?_ ?_
      | refine LeO.bind ?_ (fun _ => ?_)
set_option maxHeartbeats 8000000 in
set_option maxRecDepth 100000 in
theorem pentroughlaw11_ClusExtends.calls (k : Nat) (A0 : Option Addr) (c0 : Nat) (l0 : List Int) (r : Bool) (w : World) (hr0 : Kd.C (Kd.int .i64) w A0 l0.length l0) (hc0 : l0.length ≤ c0) (h : pentroughlaw11_ClusExtends.f k l0 = some r) :
    Calls Try.prog 13 #[.slice A0 l0.length c0] w fun e w' => e = .returned (.bool r) ∧ Below w.heap.size w w' := by
  have HR0 := Aside0.mk hr0
  have HC0 := Aside0.mk hc0
  clear hr0 hc0
  have HB := Aside0.mk (Below.refl w.heap.size w)
  have H : ((pentroughlaw11_awake.f k).bind fun t376 => (if (l0.length : Int) > 200 then (some t376) else ((clus_Cuts.f k l0).bind fun t377 => (if (t377.length : Int) = (l0.length : Int) then (pentroughlaw11_ClusExtends.l0 k l0 t376 t377 0) else (some false))))) = some r := h
  clear h
  replace H := Option.bind_eq_some_iff.mp H
  obtain ⟨t376, A20, H⟩ := H
  replace H : (if (l0.length : Int) > 200 then (some t376) else ((clus_Cuts.f k l0).bind fun t377 => (if (t377.length : Int) = (l0.length : Int) then (pentroughlaw11_ClusExtends.l0 k l0 t376 t377 0) else (some false)))) = some r := H
  have A2 := Aside0.mk A20
  clear A20
  by_cases c3 : (l0.length : Int) > 200
  · rw [if_pos c3] at H
    have c3b0 : decide (200 < (l0.length : Int)) = true := decide_eq_true c3
    have c3b1 : decide (200 < l0.length) = true := decide_eq_true (by omega)
    clear c3
    obtain rfl := Option.some.inj H
    go_enter Try.func13, Try.ntmps13
    go_wp2_with (first | ((with_reducible refine gate_callee (f := 24) rfl ?_); refine goesL_ (some 10) rfl rfl Try.func24 (by kernel_rfl) rfl #[] rfl (by (try simp only [List.map_toArray, List.map_cons, List.map_nil]); first | done | rfl | (simp only [List.length_drop, List.length_take]; rfl)) ?_; (with_reducible refine (pentroughlaw11_awake.calls k  t376 _ A2.out).mono ?_); rintro e w4 ⟨rfl, hb⟩; refine ⟨_, rfl, ?_⟩; have n0_ := Aside0.mk (below_step (by repeat (first | (with_reducible first | exact HB.out | apply below_alloc | apply pw_below_drewN | apply below_drew1) | exact HB.out)) hb); clear HB; have HB := n0_; clear n0_; (try clear hb); (try clear hb2); (try clear hk); (try clear hi)))
    go_ret
    exact ⟨by first | rfl | (simp [errW_none, errW_some] <;> rfl) | (simp [*, errW_none, errW_some] <;> rfl), by repeat (first | (with_reducible first | exact HB.out | apply below_alloc | apply pw_below_drewN | apply below_drew1) | exact HB.out)⟩
  · rw [if_neg c3] at H
    have c3b0 : decide (200 < (l0.length : Int)) = false := decide_eq_false c3
    have c3b1 : decide (200 < l0.length) = false := decide_eq_false (by omega)
    clear c3
    replace H := Option.bind_eq_some_iff.mp H
    obtain ⟨t377, A50, H⟩ := H
    replace H : (if (t377.length : Int) = (l0.length : Int) then (pentroughlaw11_ClusExtends.l0 k l0 t376 t377 0) else (some false)) = some r := H
    have A5 := Aside0.mk A50
    clear A50
    by_cases c6 : (t377.length : Int) = (l0.length : Int)
    · rw [if_pos c6] at H
      have c6b0 : ((t377.length : Int) == (l0.length : Int)) = true := beq_iff_eq.mpr c6
      have c6b1 : ((t377.length : Int) != (l0.length : Int)) = false := bne_eq_false_iff_eq.mpr c6
      have c6b2 : (t377.length == l0.length) = true := by first | simpa using c6 | (simp at c6 ⊢; omega)
      clear c6
      have H' := Aside0.mk H
      clear H
      go_enter Try.func13, Try.ntmps13
      go_wp2_with (first | ((with_reducible refine gate_callee (f := 24) rfl ?_); refine goesL_ (some 10) rfl rfl Try.func24 (by kernel_rfl) rfl #[] rfl (by (try simp only [List.map_toArray, List.map_cons, List.map_nil]); first | done | rfl | (simp only [List.length_drop, List.length_take]; rfl)) ?_; (with_reducible refine (pentroughlaw11_awake.calls k  t376 _ A2.out).mono ?_); rintro e w7 ⟨rfl, hb⟩; refine ⟨_, rfl, ?_⟩; have n0_ := Aside0.mk (below_step (by repeat (first | (with_reducible first | exact HB.out | apply below_alloc | apply pw_below_drewN | apply below_drew1) | exact HB.out)) hb); clear HB; have HB := n0_; clear n0_; (try clear hb); (try clear hb2); (try clear hk); (try clear hi)) | ((with_reducible refine gate_callee (f := 34) rfl ?_); refine goesL_ (some 16) rfl rfl Try.func34 (by kernel_rfl) rfl #[.slice A0 l0.length c0] rfl (by (try simp only [List.map_toArray, List.map_cons, List.map_nil]); first | done | rfl | (simp only [List.length_drop, List.length_take]; rfl)) ?_; (with_reducible refine (clus_Cuts.calls k _ _ l0 t377 _ ?side1 ?side2 A5.out).mono ?_); (case side1 => repeat (first | exact (Kd.C_below HR0.out HB.out) | (with_reducible refine Kd.C_alloc ?_ _) | (with_reducible refine Kd.C_drewN ?_ _) | (with_reducible refine Kd.C_drew ?_))); (case side2 => exact HC0.out); rintro e w8 ⟨v378, rfl, ho0, hb⟩; refine ⟨_, rfl, ?_⟩; have n0_ := Aside0.mk (Kd.R_lower ho0 (below_size (by repeat (first | (with_reducible first | exact HB.out | apply below_alloc | apply pw_below_drewN | apply below_drew1) | exact HB.out)))); have n1_ := Aside0.mk (below_step (by repeat (first | (with_reducible first | exact HB.out | apply below_alloc | apply pw_below_drewN | apply below_drew1) | exact HB.out)) hb); clear HB; have HO379 := n0_; have HB := n1_; clear n0_ n1_; (try clear hb); (try clear hb2); (try clear hk); (try clear hi); (try clear ho0); obtain ⟨Ao9, co9, eo9⟩ := Kd.R_slice HO379.out; subst eo9))
      go_loopg [5] k (fun kq v5 w' => ∃ (x5_1 : Int), v5 = .int .i64 x5_1 ∧ Aside0 (pentroughlaw11_ClusExtends.l0 kq l0 t376 t377 x5_1 = some r) ∧ Aside0 (kq ≤ k) ∧ Aside0 (Kd.R Kd.bool 4 w' w.heap.size (fun _ => True) (.slice Ao9 t377.length co9) t377) ∧ Aside0 (Below w.heap.size w w'))
      case atStart => exact ⟨(0), (by first | rfl | (simp; done) | (simp [*]; done)), H', ⟨Nat.le_refl _⟩, ⟨by (with_reducible repeat (first | apply Kd.R_alloc | apply Kd.R_drewN | apply Kd.R_drew)); exact HO379.out⟩, ⟨by repeat (first | (with_reducible first | exact HB.out | apply below_alloc | apply pw_below_drewN | apply below_drew1) | exact HB.out)⟩⟩
      case round =>
        clear H'
        try clear c1
        try clear c2
        try clear p2
        try clear c3
        try clear c3b0
        try clear c3b1
        try clear c6
        try clear c6b0
        try clear c6b1
        try clear c6b2
        obtain ⟨x5_1, rfl, HA, HK1, HO_4, HB⟩ := hrel
        cases gk with
        | zero => exact absurd HA.out (by simp [pentroughlaw11_ClusExtends.l0])
        | succ k1 =>
          have H := HA.out
          clear HA
          simp only [pentroughlaw11_ClusExtends.l0] at H
          by_cases c10 : x5_1 < (l0.length : Int)
          · rw [if_pos c10] at H
            have c10b0 : decide (x5_1 < (l0.length : Int)) = true := decide_eq_true c10
            clear c10
            by_cases c11 : 0 ≤ x5_1
            · rw [if_pos c11] at H
              have c11b0 : decide (0 ≤ x5_1) = true := decide_eq_true c11
              clear c11
              replace H := Option.bind_eq_some_iff.mp H
              obtain ⟨t381, A120, H⟩ := H
              replace H : (if x5_1 = 0 then (if 0 < (t377.length : Int) then (if rdOf false t377 0 = true then (some false) else (pentroughlaw11_ClusExtends.l0 k1 l0 t376 t377 (wrap64 (x5_1 + 1)))) else (none)) else (if 0 ≤ (wrap64 (x5_1 - 1)) then (if (wrap64 (x5_1 - 1)) < (l0.length : Int) then ((prop_Gcb.f k1 (rd l0 (wrap64 (x5_1 - 1)))).bind fun t384 => (if t384 ≥ 1 then (pentroughlaw11_ClusExtends.j1 k1 l0 t376 t377 x5_1 t381 t384 (decide (t384 ≤ 3))) else (pentroughlaw11_ClusExtends.j1 k1 l0 t376 t377 x5_1 t381 t384 false))) else (none)) else (none))) = some r := H
              have A12 := Aside0.mk A120
              clear A120
              by_cases c13 : x5_1 = 0
              · rw [if_pos c13] at H
                have c13b0 : (x5_1 == 0) = true := beq_iff_eq.mpr c13
                have c13b1 : (x5_1 != 0) = false := bne_eq_false_iff_eq.mpr c13
                clear c13
                by_cases c14 : 0 < (t377.length : Int)
                · rw [if_pos c14] at H
                  have c14b0 : decide (0 < (t377.length : Int)) = true := decide_eq_true c14
                  have c14b1 : decide (0 < t377.length) = true := decide_eq_true (by omega)
                  clear c14
                  obtain ⟨bq15, hbq15⟩ : ∃ b_ : Bool, b_ = (rdOf false t377 0) := ⟨_, rfl⟩
                  replace H : (if bq15 = true then (some false) else (pentroughlaw11_ClusExtends.l0 k1 l0 t376 t377 (wrap64 (x5_1 + 1)))) = some r := by rw [← hbq15] at H; exact H
                  have Nbq15 := Aside0.mk hbq15
                  clear hbq15
                  by_cases c16 : bq15 = true
                  · subst c16
                    have H1 : (some false) = some r := by rw [if_pos rfl] at H; exact H
                    clear H
                    have H := H1
                    clear H1
                    obtain rfl := Option.some.inj H
                    have p380 : 0 ≤ (x5_1 : Int) := of_decide_eq_true (by first | (with_reducible assumption) | assumption)
                    have q380 : x5_1 < (l0.length : Int) := of_decide_eq_true (by first | (with_reducible assumption) | assumption)
                    obtain ⟨ad380, e380, hx380_0⟩ := Kd.at_int HR0.out x5_1 p380 q380
                    cases e380
                    replace hx380_0 := (HB.out.cell (World.block_lt_of_cell? w _ hx380_0)).trans hx380_0
                    replace p380 := eq_true p380
                    replace q380 := eq_true q380
                    go_wp2_with (first | ((with_reducible refine gate_callee (f := 17) rfl ?_); refine goesL_ (some 32) rfl rfl Try.func17 (by kernel_rfl) rfl #[.int .i64 (rd l0 x5_1)] rfl (by (try simp only [List.map_toArray, List.map_cons, List.map_nil]); first | done | rfl | (simp only [List.length_drop, List.length_take]; rfl)) ?_; (with_reducible refine (prop_Gcb.calls k1 (rd l0 x5_1) t381 _ A12.out).mono ?_); rintro e w17 ⟨rfl, hb⟩; refine ⟨_, rfl, ?_⟩; have n0_ := Aside0.mk (Kd.R_below (by (with_reducible repeat (first | apply Kd.R_alloc | apply Kd.R_drewN | apply Kd.R_drew)); exact HO_4.out) hb); have n1_ := Aside0.mk (below_step (by repeat (first | (with_reducible first | exact HB.out | apply below_alloc | apply pw_below_drewN | apply below_drew1) | exact HB.out)) hb); clear HO_4; clear HB; have HO_4 := n0_; have HB := n1_; clear n0_ n1_; (try clear hb); (try clear hb2); (try clear hk); (try clear hi); have p382 : 0 ≤ (0 : Int) := (by omega); have q382 : 0 < (t377.length : Int) := of_decide_eq_true (by first | (with_reducible assumption) | assumption); obtain ⟨ad382, e382, hx382_0⟩ := Kd.at_bool (Kd.R_reads' HO_4.out).2.2 0 p382 q382; (try rw [← Nbq15.out] at hx382_0); cases e382; have qi382 : (0 < t377.length) = True := eq_true (by omega); (try rw [show ((0 : Int)).toNat = 0 from rfl] at hx382_0); (try rw [Addr.add_zero'] at hx382_0); replace p382 := eq_true p382; replace q382 := eq_true q382))
                    go_ret
                    exact ⟨by first | rfl | (simp [errW_none, errW_some] <;> rfl) | (simp [*, errW_none, errW_some] <;> rfl), by repeat (first | (with_reducible first | exact HB.out | apply below_alloc | apply pw_below_drewN | apply below_drew1) | exact HB.out)⟩
                  · replace c16 := Bool.eq_false_iff.mpr c16
                    subst c16
                    have H1 : (pentroughlaw11_ClusExtends.l0 k1 l0 t376 t377 (wrap64 (x5_1 + 1))) = some r := by rw [if_neg (show ¬ (false = true) by decide)] at H; exact H
                    clear H
                    have H := H1
                    clear H1
                    have H' := Aside0.mk H
                    clear H
                    have p380 : 0 ≤ (x5_1 : Int) := of_decide_eq_true (by first | (with_reducible assumption) | assumption)
                    have q380 : x5_1 < (l0.length : Int) := of_decide_eq_true (by first | (with_reducible assumption) | assumption)
                    obtain ⟨ad380, e380, hx380_0⟩ := Kd.at_int HR0.out x5_1 p380 q380
                    cases e380
                    replace hx380_0 := (HB.out.cell (World.block_lt_of_cell? w _ hx380_0)).trans hx380_0
                    replace p380 := eq_true p380
                    replace q380 := eq_true q380
                    go_wp2_with (first | ((with_reducible refine gate_callee (f := 17) rfl ?_); refine goesL_ (some 32) rfl rfl Try.func17 (by kernel_rfl) rfl #[.int .i64 (rd l0 x5_1)] rfl (by (try simp only [List.map_toArray, List.map_cons, List.map_nil]); first | done | rfl | (simp only [List.length_drop, List.length_take]; rfl)) ?_; (with_reducible refine (prop_Gcb.calls k1 (rd l0 x5_1) t381 _ A12.out).mono ?_); rintro e w18 ⟨rfl, hb⟩; refine ⟨_, rfl, ?_⟩; have n0_ := Aside0.mk (Kd.R_below (by (with_reducible repeat (first | apply Kd.R_alloc | apply Kd.R_drewN | apply Kd.R_drew)); exact HO_4.out) hb); have n1_ := Aside0.mk (below_step (by repeat (first | (with_reducible first | exact HB.out | apply below_alloc | apply pw_below_drewN | apply below_drew1) | exact HB.out)) hb); clear HO_4; clear HB; have HO_4 := n0_; have HB := n1_; clear n0_ n1_; (try clear hb); (try clear hb2); (try clear hk); (try clear hi); have p382 : 0 ≤ (0 : Int) := (by omega); have q382 : 0 < (t377.length : Int) := of_decide_eq_true (by first | (with_reducible assumption) | assumption); obtain ⟨ad382, e382, hx382_0⟩ := Kd.at_bool (Kd.R_reads' HO_4.out).2.2 0 p382 q382; (try rw [← Nbq15.out] at hx382_0); cases e382; have qi382 : (0 < t377.length) = True := eq_true (by omega); (try rw [show ((0 : Int)).toNat = 0 from rfl] at hx382_0); (try rw [Addr.add_zero'] at hx382_0); replace p382 := eq_true p382; replace q382 := eq_true q382))
                    go_roundg k1
                    case measure => have := HK1.out; omega
                    case rel => exact ⟨(wrap64 (x5_1 + 1)), (by first | rfl | (simp; done) | (simp [*]; done)), H', ⟨by have := HK1.out; omega⟩, ⟨by (with_reducible repeat (first | apply Kd.R_alloc | apply Kd.R_drewN | apply Kd.R_drew)); exact HO_4.out⟩, ⟨by repeat (first | (with_reducible first | exact HB.out | apply below_alloc | apply pw_below_drewN | apply below_drew1) | exact HB.out)⟩⟩
                · rw [if_neg c14] at H
                  exact absurd H (by simp)
              · rw [if_neg c13] at H
                have c13b0 : (x5_1 == 0) = false := beq_eq_false_iff_ne.mpr c13
                have c13b1 : (x5_1 != 0) = true := bne_iff_ne.mpr c13
                obtain ⟨ji19, hji19⟩ : ∃ j_ : Int, (wrap64 (x5_1 - 1)) = j_ := ⟨_, rfl⟩
                replace H : (if 0 ≤ (ji19) then (if (ji19) < (l0.length : Int) then ((prop_Gcb.f k1 (rd l0 (ji19))).bind fun t384 => (if t384 ≥ 1 then (pentroughlaw11_ClusExtends.j1 k1 l0 t376 t377 x5_1 t381 t384 (decide (t384 ≤ 3))) else (pentroughlaw11_ClusExtends.j1 k1 l0 t376 t377 x5_1 t381 t384 false))) else (none)) else (none)) = some r := by first | (rw [hji19] at H; exact H) | (simp only [hji19] at H ⊢; exact H)
                (try rw [hji19] at A12)
                have hji19w : (IntKind.i64.wrap (x5_1 - 1)) = ji19 := (i64_w _).trans hji19
                by_cases c20 : 0 ≤ (ji19)
                · rw [if_pos c20] at H
                  have c20b0 : decide (0 ≤ (ji19)) = true := decide_eq_true c20
                  clear c20
                  by_cases c21 : (ji19) < (l0.length : Int)
                  · rw [if_pos c21] at H
                    have c21b0 : decide ((ji19) < (l0.length : Int)) = true := decide_eq_true c21
                    clear c21
                    replace H := Option.bind_eq_some_iff.mp H
                    obtain ⟨t384, A220, H⟩ := H
                    replace H : (if t384 ≥ 1 then (pentroughlaw11_ClusExtends.j1 k1 l0 t376 t377 x5_1 t381 t384 (decide (t384 ≤ 3))) else (pentroughlaw11_ClusExtends.j1 k1 l0 t376 t377 x5_1 t381 t384 false)) = some r := H
                    have A22 := Aside0.mk A220
                    clear A220
                    have HC23 := Aside0.mk H
                    clear H
                    have p380 : 0 ≤ (x5_1 : Int) := of_decide_eq_true (by first | (with_reducible assumption) | assumption)
                    have q380 : x5_1 < (l0.length : Int) := of_decide_eq_true (by first | (with_reducible assumption) | assumption)
                    obtain ⟨ad380, e380, hx380_0⟩ := Kd.at_int HR0.out x5_1 p380 q380
                    cases e380
                    replace hx380_0 := (HB.out.cell (World.block_lt_of_cell? w _ hx380_0)).trans hx380_0
                    replace p380 := eq_true p380
                    replace q380 := eq_true q380
                    go_upto_region 15 with (first | ((with_reducible refine gate_callee (f := 17) rfl ?_); refine goesL_ (some 32) rfl rfl Try.func17 (by kernel_rfl) rfl #[.int .i64 (rd l0 x5_1)] rfl (by (try simp only [List.map_toArray, List.map_cons, List.map_nil]); first | done | rfl | (simp only [List.length_drop, List.length_take]; rfl)) ?_; (with_reducible refine (prop_Gcb.calls k1 (rd l0 x5_1) t381 _ A12.out).mono ?_); rintro e w24 ⟨rfl, hb⟩; refine ⟨_, rfl, ?_⟩; have n0_ := Aside0.mk (Kd.R_below (by (with_reducible repeat (first | apply Kd.R_alloc | apply Kd.R_drewN | apply Kd.R_drew)); exact HO_4.out) hb); have n1_ := Aside0.mk (below_step (by repeat (first | (with_reducible first | exact HB.out | apply below_alloc | apply pw_below_drewN | apply below_drew1) | exact HB.out)) hb); clear HO_4; clear HB; have HO_4 := n0_; have HB := n1_; clear n0_ n1_; (try clear hb); (try clear hb2); (try clear hk); (try clear hi); have p383 : 0 ≤ ((ji19) : Int) := of_decide_eq_true (by first | (with_reducible assumption) | assumption); have q383 : (ji19) < (l0.length : Int) := of_decide_eq_true (by first | (with_reducible assumption) | assumption); obtain ⟨ad383, e383, hx383_0⟩ := Kd.at_int HR0.out (ji19) p383 q383; obtain rfl : ad380 = ad383 := (by injection e383); replace hx383_0 := (HB.out.cell (World.block_lt_of_cell? w _ hx383_0)).trans hx383_0; replace p383 := eq_true p383; replace q383 := eq_true q383) | ((with_reducible refine gate_callee (f := 17) rfl ?_); refine goesL_ (some 43) rfl rfl Try.func17 (by kernel_rfl) rfl #[.int .i64 (rd l0 (ji19))] rfl (by (try simp only [List.map_toArray, List.map_cons, List.map_nil]); first | done | (simp only [hji19]; rfl) | rfl | (simp only [List.length_drop, List.length_take]; rfl)) ?_; (with_reducible refine (prop_Gcb.calls k1 (rd l0 (ji19)) t384 _ A22.out).mono ?_); rintro e w25 ⟨rfl, hb⟩; refine ⟨_, rfl, ?_⟩; have n0_ := Aside0.mk (Kd.R_below (by (with_reducible repeat (first | apply Kd.R_alloc | apply Kd.R_drewN | apply Kd.R_drew)); exact HO_4.out) hb); have n1_ := Aside0.mk (below_step (by repeat (first | (with_reducible first | exact HB.out | apply below_alloc | apply pw_below_drewN | apply below_drew1) | exact HB.out)) hb); clear HO_4; clear HB; have HO_4 := n0_; have HB := n1_; clear n0_ n1_; (try clear hb); (try clear hb2); (try clear hk); (try clear hi)))
                    (try simp only [Act.put, List.setIfInBounds_toArray, List.set_cons_zero, List.set_cons_succ])
                    go_cut [8] (fun v8 wc => ∃ (kq : Nat) (x8_22 : Bool), v8 = .bool x8_22 ∧ Aside0 (pentroughlaw11_ClusExtends.j1 kq l0 t376 t377 x5_1 t381 t384 x8_22 = some r) ∧ Aside0 (kq ≤ k1) ∧ Aside0 (Kd.R Kd.bool 4 wc w.heap.size (fun _ => True) (.slice Ao9 t377.length co9) t377) ∧ Aside0 (Below w.heap.size w wc))
                    case first =>
                      have H := HC23.out
                      clear HC23
                      by_cases c26 : t384 ≥ 1
                      · rw [if_pos c26] at H
                        have c26b0 : decide (1 ≤ t384) = true := decide_eq_true c26
                        clear c26
                        (first | rw [c26b0] | (simp only [i64_w, i32_w]; rw [c26b0]) | skip)
                        have H' := Aside0.mk H
                        clear H
                        go_wp2
                        go_meet
                        case rel => exact ⟨_, (decide (t384 ≤ 3)), (by first | rfl | (simp; done) | (simp [*]; done)), H', ⟨by have := HK1.out; first | omega | exact Nat.le_refl _⟩, ⟨by (with_reducible repeat (first | apply Kd.R_alloc | apply Kd.R_drewN | apply Kd.R_drew)); exact HO_4.out⟩, ⟨by repeat (first | (with_reducible first | exact HB.out | apply below_alloc | apply pw_below_drewN | apply below_drew1) | exact HB.out)⟩⟩
                      · rw [if_neg c26] at H
                        have c26b0 : decide (1 ≤ t384) = false := decide_eq_false c26
                        clear c26
                        (first | rw [c26b0] | (simp only [i64_w, i32_w]; rw [c26b0]) | skip)
                        have H' := Aside0.mk H
                        clear H
                        go_wp2
                        go_meet
                        case rel => exact ⟨_, (false), (by first | rfl | (simp; done) | (simp [*]; done)), H', ⟨by have := HK1.out; first | omega | exact Nat.le_refl _⟩, ⟨by (with_reducible repeat (first | apply Kd.R_alloc | apply Kd.R_drewN | apply Kd.R_drew)); exact HO_4.out⟩, ⟨by repeat (first | (with_reducible first | exact HB.out | apply below_alloc | apply pw_below_drewN | apply below_drew1) | exact HB.out)⟩⟩
                    case rest =>
                      clear HC23
                      try clear c1
                      try clear q1
                      try clear c2
                      try clear p2
                      try clear c3
                      try clear c3b0
                      try clear c3b1
                      try clear p3
                      try clear q3
                      try clear hx3
                      try clear qi3
                      try clear c6
                      try clear c6b0
                      try clear c6b1
                      try clear c6b2
                      try clear p6
                      try clear c10
                      try clear c10b0
                      try clear c11
                      try clear c11b0
                      try clear c13
                      try clear c13b0
                      try clear c13b1
                      try clear c14
                      try clear c14b0
                      try clear c14b1
                      try clear q15
                      try clear c16
                      try clear c17
                      try clear c20
                      try clear c20b0
                      try clear c21
                      try clear c21b0
                      try clear c24
                      try clear c26
                      try clear c26b0
                      try clear hx380_0
                      try clear hx382_0
                      try clear hx383_0
                      try clear p2
                      try clear p380
                      try clear p382
                      try clear p383
                      try clear q380
                      try clear q382
                      try clear q383
                      obtain ⟨kq, x8_22, rfl, HA, HJ22, HO_4, HB⟩ := hcut
                      cases kq with
                      | zero => exact absurd HA.out (by simp [pentroughlaw11_ClusExtends.j1])
                      | succ kj22 =>
                        have H := HA.out
                        clear HA
                        simp only [pentroughlaw11_ClusExtends.j1] at H
                        have HC27 := Aside0.mk H
                        clear H
                        go_upto_region 16 with (fail)
                        go_cut [9] (fun v9 wc => ∃ (kq : Nat) (x9_26 : Bool), v9 = .bool x9_26 ∧ Aside0 (pentroughlaw11_ClusExtends.j2 kq l0 t376 t377 x5_1 t381 t384 x8_22 x9_26 = some r) ∧ Aside0 (kq ≤ kj22) ∧ Aside0 (Kd.R Kd.bool 4 wc w.heap.size (fun _ => True) (.slice Ao9 t377.length co9) t377) ∧ Aside0 (Below w.heap.size w wc))
                        case first =>
                          have H := HC27.out
                          clear HC27
                          by_cases c28 : t381 ≥ 1
                          · rw [if_pos c28] at H
                            have c28b0 : decide (1 ≤ t381) = true := decide_eq_true c28
                            clear c28
                            (first | rw [c28b0] | (simp only [i64_w, i32_w]; rw [c28b0]) | skip)
                            have H' := Aside0.mk H
                            clear H
                            go_wp2
                            go_meet
                            case rel => exact ⟨_, (decide (t381 ≤ 3)), (by first | rfl | (simp; done) | (simp [*]; done)), H', ⟨by have := HK1.out; have := HJ22.out; first | omega | exact Nat.le_refl _⟩, ⟨by (with_reducible repeat (first | apply Kd.R_alloc | apply Kd.R_drewN | apply Kd.R_drew)); exact HO_4.out⟩, ⟨by repeat (first | (with_reducible first | exact HB.out | apply below_alloc | apply pw_below_drewN | apply below_drew1) | exact HB.out)⟩⟩
                          · rw [if_neg c28] at H
                            have c28b0 : decide (1 ≤ t381) = false := decide_eq_false c28
                            clear c28
                            (first | rw [c28b0] | (simp only [i64_w, i32_w]; rw [c28b0]) | skip)
                            have H' := Aside0.mk H
                            clear H
                            go_wp2
                            go_meet
                            case rel => exact ⟨_, (false), (by first | rfl | (simp; done) | (simp [*]; done)), H', ⟨by have := HK1.out; have := HJ22.out; first | omega | exact Nat.le_refl _⟩, ⟨by (with_reducible repeat (first | apply Kd.R_alloc | apply Kd.R_drewN | apply Kd.R_drew)); exact HO_4.out⟩, ⟨by repeat (first | (with_reducible first | exact HB.out | apply below_alloc | apply pw_below_drewN | apply below_drew1) | exact HB.out)⟩⟩
                        case rest =>
                          clear HC27
                          try clear c1
                          try clear q1
                          try clear c2
                          try clear p2
                          try clear c3
                          try clear c3b0
                          try clear c3b1
                          try clear p3
                          try clear q3
                          try clear hx3
                          try clear qi3
                          try clear c6
                          try clear c6b0
                          try clear c6b1
                          try clear c6b2
                          try clear p6
                          try clear c10
                          try clear c10b0
                          try clear c11
                          try clear c11b0
                          try clear c13
                          try clear c13b0
                          try clear c13b1
                          try clear c14
                          try clear c14b0
                          try clear c14b1
                          try clear q15
                          try clear c16
                          try clear c17
                          try clear c20
                          try clear c20b0
                          try clear c21
                          try clear c21b0
                          try clear c24
                          try clear c26
                          try clear c26b0
                          try clear c28
                          try clear c28b0
                          try clear hx380_0
                          try clear hx382_0
                          try clear hx383_0
                          try clear p2
                          try clear p3
                          try clear p380
                          try clear p382
                          try clear p383
                          try clear p6
                          try clear q1
                          try clear q15
                          try clear q3
                          try clear q380
                          try clear q382
                          try clear q383
                          obtain ⟨kq, x9_26, rfl, HA, HJ26, HO_4, HB⟩ := hcut
                          cases kq with
                          | zero => exact absurd HA.out (by simp [pentroughlaw11_ClusExtends.j2])
                          | succ kj26 =>
                            have H := HA.out
                            clear HA
                            simp only [pentroughlaw11_ClusExtends.j2] at H
                            have HC29 := Aside0.mk H
                            clear H
                            go_upto_region 17 with (fail)
                            go_cut [61] (fun v61 wc => ∃ (kq : Nat) (x61_28 : Bool), v61 = .bool x61_28 ∧ Aside0 (pentroughlaw11_ClusExtends.j3 kq l0 t376 t377 x5_1 t381 x8_22 x9_26 x61_28 = some r) ∧ Aside0 (kq ≤ kj26) ∧ Aside0 (Kd.R Kd.bool 4 wc w.heap.size (fun _ => True) (.slice Ao9 t377.length co9) t377) ∧ Aside0 (Below w.heap.size w wc))
                            case first =>
                              have H := HC29.out
                              clear HC29
                              by_cases c30 : t384 = 1
                              · rw [if_pos c30] at H
                                have c30b0 : (t384 == 1) = true := beq_iff_eq.mpr c30
                                have c30b1 : (t384 != 1) = false := bne_eq_false_iff_eq.mpr c30
                                clear c30
                                (first | rw [c30b0] | (simp only [i64_w, i32_w]; rw [c30b0]) | skip)
                                have H' := Aside0.mk H
                                clear H
                                go_wp2
                                go_meet
                                case rel => exact ⟨_, ((t381 == 2)), (by first | rfl | (simp; done) | (simp [*]; done)), H', ⟨by have := HK1.out; have := HJ22.out; have := HJ26.out; first | omega | exact Nat.le_refl _⟩, ⟨by (with_reducible repeat (first | apply Kd.R_alloc | apply Kd.R_drewN | apply Kd.R_drew)); exact HO_4.out⟩, ⟨by repeat (first | (with_reducible first | exact HB.out | apply below_alloc | apply pw_below_drewN | apply below_drew1) | exact HB.out)⟩⟩
                              · rw [if_neg c30] at H
                                have c30b0 : (t384 == 1) = false := beq_eq_false_iff_ne.mpr c30
                                have c30b1 : (t384 != 1) = true := bne_iff_ne.mpr c30
                                (first | rw [c30b0] | (simp only [i64_w, i32_w]; rw [c30b0]) | skip)
                                have H' := Aside0.mk H
                                clear H
                                go_wp2
                                go_meet
                                case rel => exact ⟨_, (false), (by first | rfl | (simp; done) | (simp [*]; done)), H', ⟨by have := HK1.out; have := HJ22.out; have := HJ26.out; first | omega | exact Nat.le_refl _⟩, ⟨by (with_reducible repeat (first | apply Kd.R_alloc | apply Kd.R_drewN | apply Kd.R_drew)); exact HO_4.out⟩, ⟨by repeat (first | (with_reducible first | exact HB.out | apply below_alloc | apply pw_below_drewN | apply below_drew1) | exact HB.out)⟩⟩
                            case rest =>
                              clear HC29
                              try clear c1
                              try clear q1
                              try clear c2
                              try clear p2
                              try clear c3
                              try clear c3b0
                              try clear c3b1
                              try clear p3
                              try clear q3
                              try clear hx3
                              try clear qi3
                              try clear c6
                              try clear c6b0
                              try clear c6b1
                              try clear c6b2
                              try clear p6
                              try clear c10
                              try clear c10b0
                              try clear c11
                              try clear c11b0
                              try clear c13
                              try clear c13b0
                              try clear c13b1
                              try clear c14
                              try clear c14b0
                              try clear c14b1
                              try clear q15
                              try clear c16
                              try clear c17
                              try clear c20
                              try clear c20b0
                              try clear c21
                              try clear c21b0
                              try clear c24
                              try clear c26
                              try clear c26b0
                              try clear c28
                              try clear c28b0
                              try clear c30
                              try clear c30b0
                              try clear c30b1
                              try clear hx380_0
                              try clear hx382_0
                              try clear hx383_0
                              try clear p2
                              try clear p3
                              try clear p380
                              try clear p382
                              try clear p383
                              try clear p6
                              try clear q1
                              try clear q15
                              try clear q3
                              try clear q380
                              try clear q382
                              try clear q383
                              obtain ⟨kq, x61_28, rfl, HA, HJ28, HO_4, HB⟩ := hcut
                              cases kq with
                              | zero => exact absurd HA.out (by simp [pentroughlaw11_ClusExtends.j3])
                              | succ kj28 =>
                                have H := HA.out
                                clear HA
                                simp only [pentroughlaw11_ClusExtends.j3] at H
                                by_cases c31 : x61_28 = true
                                · subst c31
                                  have H1 : (if 0 ≤ x5_1 then (if x5_1 < (t377.length : Int) then (if rdOf false t377 x5_1 = true then (some false) else (pentroughlaw11_ClusExtends.l0 kj28 l0 t376 t377 (wrap64 (x5_1 + 1)))) else (none)) else (none)) = some r := by rw [if_pos rfl] at H; exact H
                                  clear H
                                  have H := H1
                                  clear H1
                                  by_cases c32 : 0 ≤ x5_1
                                  · rw [if_pos c32] at H
                                    have c32b0 : decide (0 ≤ x5_1) = true := decide_eq_true c32
                                    clear c32
                                    by_cases c33 : x5_1 < (t377.length : Int)
                                    · rw [if_pos c33] at H
                                      have c33b0 : decide (x5_1 < (t377.length : Int)) = true := decide_eq_true c33
                                      clear c33
                                      obtain ⟨bq34, hbq34⟩ : ∃ b_ : Bool, b_ = (rdOf false t377 x5_1) := ⟨_, rfl⟩
                                      replace H : (if bq34 = true then (some false) else (pentroughlaw11_ClusExtends.l0 kj28 l0 t376 t377 (wrap64 (x5_1 + 1)))) = some r := by rw [← hbq34] at H; exact H
                                      have Nbq34 := Aside0.mk hbq34
                                      clear hbq34
                                      by_cases c35 : bq34 = true
                                      · subst c35
                                        have H1 : (some false) = some r := by rw [if_pos rfl] at H; exact H
                                        clear H
                                        have H := H1
                                        clear H1
                                        obtain rfl := Option.some.inj H
                                        have p385 : 0 ≤ (x5_1 : Int) := of_decide_eq_true (by first | (with_reducible assumption) | assumption)
                                        have q385 : x5_1 < (t377.length : Int) := of_decide_eq_true (by first | (with_reducible assumption) | assumption)
                                        obtain ⟨ad385, e385, hx385_0⟩ := Kd.at_bool (Kd.R_reads' HO_4.out).2.2 x5_1 p385 q385
                                        (try rw [← Nbq34.out] at hx385_0)
                                        cases e385
                                        replace p385 := eq_true p385
                                        replace q385 := eq_true q385
                                        go_wp2
                                        go_ret
                                        exact ⟨by first | rfl | (simp [errW_none, errW_some] <;> rfl) | (simp only [← hji19]; first | rfl | (simp [errW_none, errW_some] <;> rfl)) | (simp [*, errW_none, errW_some] <;> rfl), by repeat (first | (with_reducible first | exact HB.out | apply below_alloc | apply pw_below_drewN | apply below_drew1) | exact HB.out)⟩
                                      · replace c35 := Bool.eq_false_iff.mpr c35
                                        subst c35
                                        have H1 : (pentroughlaw11_ClusExtends.l0 kj28 l0 t376 t377 (wrap64 (x5_1 + 1))) = some r := by rw [if_neg (show ¬ (false = true) by decide)] at H; exact H
                                        clear H
                                        have H := H1
                                        clear H1
                                        have H' := Aside0.mk H
                                        clear H
                                        have p385 : 0 ≤ (x5_1 : Int) := of_decide_eq_true (by first | (with_reducible assumption) | assumption)
                                        have q385 : x5_1 < (t377.length : Int) := of_decide_eq_true (by first | (with_reducible assumption) | assumption)
                                        obtain ⟨ad385, e385, hx385_0⟩ := Kd.at_bool (Kd.R_reads' HO_4.out).2.2 x5_1 p385 q385
                                        (try rw [← Nbq34.out] at hx385_0)
                                        cases e385
                                        replace p385 := eq_true p385
                                        replace q385 := eq_true q385
                                        go_wp2
                                        go_roundg kj28
                                        case measure => have := HK1.out; have := HJ22.out; have := HJ26.out; have := HJ28.out; omega
                                        case rel => exact ⟨(wrap64 (x5_1 + 1)), (by first | rfl | (simp; done) | (simp [*]; done)), H', ⟨by have := HK1.out; have := HJ22.out; have := HJ26.out; have := HJ28.out; omega⟩, ⟨by (with_reducible repeat (first | apply Kd.R_alloc | apply Kd.R_drewN | apply Kd.R_drew)); exact HO_4.out⟩, ⟨by repeat (first | (with_reducible first | exact HB.out | apply below_alloc | apply pw_below_drewN | apply below_drew1) | exact HB.out)⟩⟩
                                    · rw [if_neg c33] at H
                                      exact absurd H (by simp)
                                  · rw [if_neg c32] at H
                                    exact absurd H (by simp)
                                · replace c31 := Bool.eq_false_iff.mpr c31
                                  subst c31
                                  have H1 : (if x8_22 = true then (if 0 ≤ x5_1 then (if x5_1 < (t377.length : Int) then (if rdOf false t377 x5_1 = true then (pentroughlaw11_ClusExtends.l0 kj28 l0 t376 t377 (wrap64 (x5_1 + 1))) else (some false)) else (none)) else (none)) else (if x9_26 = true then (if 0 ≤ x5_1 then (if x5_1 < (t377.length : Int) then (if rdOf false t377 x5_1 = true then (if t381 = 4 then (some false) else (if t381 = 5 then (some false) else (if t381 = 8 then (some false) else (if x5_1 < (l0.length : Int) then ((prop_Mark.f (rd l0 x5_1)).bind fun t392 => (if t392 = true then (some false) else (pentroughlaw11_ClusExtends.l0 kj28 l0 t376 t377 (wrap64 (x5_1 + 1))))) else (none))))) else (some false)) else (none)) else (none)) else (if t381 = 4 then (if 0 ≤ x5_1 then (if x5_1 < (t377.length : Int) then (if rdOf false t377 x5_1 = true then (some false) else (pentroughlaw11_ClusExtends.l0 kj28 l0 t376 t377 (wrap64 (x5_1 + 1)))) else (none)) else (none)) else (if t381 = 5 then (if 0 ≤ x5_1 then (if x5_1 < (t377.length : Int) then (if rdOf false t377 x5_1 = true then (some false) else (pentroughlaw11_ClusExtends.l0 kj28 l0 t376 t377 (wrap64 (x5_1 + 1)))) else (none)) else (none)) else (if t381 = 8 then (if 0 ≤ x5_1 then (if x5_1 < (t377.length : Int) then (if rdOf false t377 x5_1 = true then (some false) else (pentroughlaw11_ClusExtends.l0 kj28 l0 t376 t377 (wrap64 (x5_1 + 1)))) else (none)) else (none)) else (if 0 ≤ x5_1 then (if x5_1 < (l0.length : Int) then ((prop_Mark.f (rd l0 x5_1)).bind fun t398 => (if t398 = true then (if x5_1 < (t377.length : Int) then (if rdOf false t377 x5_1 = true then (some false) else (pentroughlaw11_ClusExtends.l0 kj28 l0 t376 t377 (wrap64 (x5_1 + 1)))) else (none)) else (pentroughlaw11_ClusExtends.l0 kj28 l0 t376 t377 (wrap64 (x5_1 + 1))))) else (none)) else (none))))))) = some r := by rw [if_neg (show ¬ (false = true) by decide)] at H; exact H
                                  clear H
                                  have H := H1
                                  clear H1
                                  by_cases c36 : x8_22 = true
                                  · subst c36
                                    have H1 : (if 0 ≤ x5_1 then (if x5_1 < (t377.length : Int) then (if rdOf false t377 x5_1 = true then (pentroughlaw11_ClusExtends.l0 kj28 l0 t376 t377 (wrap64 (x5_1 + 1))) else (some false)) else (none)) else (none)) = some r := by rw [if_pos rfl] at H; exact H
                                    clear H
                                    have H := H1
                                    clear H1
                                    by_cases c37 : 0 ≤ x5_1
                                    · rw [if_pos c37] at H
                                      have c37b0 : decide (0 ≤ x5_1) = true := decide_eq_true c37
                                      clear c37
                                      by_cases c38 : x5_1 < (t377.length : Int)
                                      · rw [if_pos c38] at H
                                        have c38b0 : decide (x5_1 < (t377.length : Int)) = true := decide_eq_true c38
                                        clear c38
                                        obtain ⟨bq39, hbq39⟩ : ∃ b_ : Bool, b_ = (rdOf false t377 x5_1) := ⟨_, rfl⟩
                                        replace H : (if bq39 = true then (pentroughlaw11_ClusExtends.l0 kj28 l0 t376 t377 (wrap64 (x5_1 + 1))) else (some false)) = some r := by rw [← hbq39] at H; exact H
                                        have Nbq39 := Aside0.mk hbq39
                                        clear hbq39
                                        by_cases c40 : bq39 = true
                                        · subst c40
                                          have H1 : (pentroughlaw11_ClusExtends.l0 kj28 l0 t376 t377 (wrap64 (x5_1 + 1))) = some r := by rw [if_pos rfl] at H; exact H
                                          clear H
                                          have H := H1
                                          clear H1
                                          have H' := Aside0.mk H
                                          clear H
                                          have p386 : 0 ≤ (x5_1 : Int) := of_decide_eq_true (by first | (with_reducible assumption) | assumption)
                                          have q386 : x5_1 < (t377.length : Int) := of_decide_eq_true (by first | (with_reducible assumption) | assumption)
                                          obtain ⟨ad386, e386, hx386_0⟩ := Kd.at_bool (Kd.R_reads' HO_4.out).2.2 x5_1 p386 q386
                                          (try rw [← Nbq39.out] at hx386_0)
                                          cases e386
                                          replace p386 := eq_true p386
                                          replace q386 := eq_true q386
                                          go_wp2
                                          go_roundg kj28
                                          case measure => have := HK1.out; have := HJ22.out; have := HJ26.out; have := HJ28.out; omega
                                          case rel => exact ⟨(wrap64 (x5_1 + 1)), (by first | rfl | (simp; done) | (simp [*]; done)), H', ⟨by have := HK1.out; have := HJ22.out; have := HJ26.out; have := HJ28.out; omega⟩, ⟨by (with_reducible repeat (first | apply Kd.R_alloc | apply Kd.R_drewN | apply Kd.R_drew)); exact HO_4.out⟩, ⟨by repeat (first | (with_reducible first | exact HB.out | apply below_alloc | apply pw_below_drewN | apply below_drew1) | exact HB.out)⟩⟩
                                        · replace c40 := Bool.eq_false_iff.mpr c40
                                          subst c40
                                          have H1 : (some false) = some r := by rw [if_neg (show ¬ (false = true) by decide)] at H; exact H
                                          clear H
                                          have H := H1
                                          clear H1
                                          obtain rfl := Option.some.inj H
                                          have p386 : 0 ≤ (x5_1 : Int) := of_decide_eq_true (by first | (with_reducible assumption) | assumption)
                                          have q386 : x5_1 < (t377.length : Int) := of_decide_eq_true (by first | (with_reducible assumption) | assumption)
                                          obtain ⟨ad386, e386, hx386_0⟩ := Kd.at_bool (Kd.R_reads' HO_4.out).2.2 x5_1 p386 q386
                                          (try rw [← Nbq39.out] at hx386_0)
                                          cases e386
                                          replace p386 := eq_true p386
                                          replace q386 := eq_true q386
                                          go_wp2
                                          go_ret
                                          exact ⟨by first | rfl | (simp [errW_none, errW_some] <;> rfl) | (simp only [← hji19]; first | rfl | (simp [errW_none, errW_some] <;> rfl)) | (simp [*, errW_none, errW_some] <;> rfl), by repeat (first | (with_reducible first | exact HB.out | apply below_alloc | apply pw_below_drewN | apply below_drew1) | exact HB.out)⟩
                                      · rw [if_neg c38] at H
                                        exact absurd H (by simp)
                                    · rw [if_neg c37] at H
                                      exact absurd H (by simp)
                                  · replace c36 := Bool.eq_false_iff.mpr c36
                                    subst c36
                                    have H1 : (if x9_26 = true then (if 0 ≤ x5_1 then (if x5_1 < (t377.length : Int) then (if rdOf false t377 x5_1 = true then (if t381 = 4 then (some false) else (if t381 = 5 then (some false) else (if t381 = 8 then (some false) else (if x5_1 < (l0.length : Int) then ((prop_Mark.f (rd l0 x5_1)).bind fun t392 => (if t392 = true then (some false) else (pentroughlaw11_ClusExtends.l0 kj28 l0 t376 t377 (wrap64 (x5_1 + 1))))) else (none))))) else (some false)) else (none)) else (none)) else (if t381 = 4 then (if 0 ≤ x5_1 then (if x5_1 < (t377.length : Int) then (if rdOf false t377 x5_1 = true then (some false) else (pentroughlaw11_ClusExtends.l0 kj28 l0 t376 t377 (wrap64 (x5_1 + 1)))) else (none)) else (none)) else (if t381 = 5 then (if 0 ≤ x5_1 then (if x5_1 < (t377.length : Int) then (if rdOf false t377 x5_1 = true then (some false) else (pentroughlaw11_ClusExtends.l0 kj28 l0 t376 t377 (wrap64 (x5_1 + 1)))) else (none)) else (none)) else (if t381 = 8 then (if 0 ≤ x5_1 then (if x5_1 < (t377.length : Int) then (if rdOf false t377 x5_1 = true then (some false) else (pentroughlaw11_ClusExtends.l0 kj28 l0 t376 t377 (wrap64 (x5_1 + 1)))) else (none)) else (none)) else (if 0 ≤ x5_1 then (if x5_1 < (l0.length : Int) then ((prop_Mark.f (rd l0 x5_1)).bind fun t398 => (if t398 = true then (if x5_1 < (t377.length : Int) then (if rdOf false t377 x5_1 = true then (some false) else (pentroughlaw11_ClusExtends.l0 kj28 l0 t376 t377 (wrap64 (x5_1 + 1)))) else (none)) else (pentroughlaw11_ClusExtends.l0 kj28 l0 t376 t377 (wrap64 (x5_1 + 1))))) else (none)) else (none)))))) = some r := by rw [if_neg (show ¬ (false = true) by decide)] at H; exact H
                                    clear H
                                    have H := H1
                                    clear H1
                                    by_cases c41 : x9_26 = true
                                    · subst c41
                                      have H1 : (if 0 ≤ x5_1 then (if x5_1 < (t377.length : Int) then (if rdOf false t377 x5_1 = true then (if t381 = 4 then (some false) else (if t381 = 5 then (some false) else (if t381 = 8 then (some false) else (if x5_1 < (l0.length : Int) then ((prop_Mark.f (rd l0 x5_1)).bind fun t392 => (if t392 = true then (some false) else (pentroughlaw11_ClusExtends.l0 kj28 l0 t376 t377 (wrap64 (x5_1 + 1))))) else (none))))) else (some false)) else (none)) else (none)) = some r := by rw [if_pos rfl] at H; exact H
                                      clear H
                                      have H := H1
                                      clear H1
                                      by_cases c42 : 0 ≤ x5_1
                                      · rw [if_pos c42] at H
                                        have c42b0 : decide (0 ≤ x5_1) = true := decide_eq_true c42
                                        clear c42
                                        by_cases c43 : x5_1 < (t377.length : Int)
                                        · rw [if_pos c43] at H
                                          have c43b0 : decide (x5_1 < (t377.length : Int)) = true := decide_eq_true c43
                                          clear c43
                                          obtain ⟨bq44, hbq44⟩ : ∃ b_ : Bool, b_ = (rdOf false t377 x5_1) := ⟨_, rfl⟩
                                          replace H : (if bq44 = true then (if t381 = 4 then (some false) else (if t381 = 5 then (some false) else (if t381 = 8 then (some false) else (if x5_1 < (l0.length : Int) then ((prop_Mark.f (rd l0 x5_1)).bind fun t392 => (if t392 = true then (some false) else (pentroughlaw11_ClusExtends.l0 kj28 l0 t376 t377 (wrap64 (x5_1 + 1))))) else (none))))) else (some false)) = some r := by rw [← hbq44] at H; exact H
                                          have Nbq44 := Aside0.mk hbq44
                                          clear hbq44
                                          by_cases c45 : bq44 = true
                                          · subst c45
                                            have H1 : (if t381 = 4 then (some false) else (if t381 = 5 then (some false) else (if t381 = 8 then (some false) else (if x5_1 < (l0.length : Int) then ((prop_Mark.f (rd l0 x5_1)).bind fun t392 => (if t392 = true then (some false) else (pentroughlaw11_ClusExtends.l0 kj28 l0 t376 t377 (wrap64 (x5_1 + 1))))) else (none))))) = some r := by rw [if_pos rfl] at H; exact H
                                            clear H
                                            have H := H1
                                            clear H1
                                            by_cases c46 : t381 = 4
                                            · rw [if_pos c46] at H
                                              have c46b0 : (t381 == 4) = true := beq_iff_eq.mpr c46
                                              have c46b1 : (t381 != 4) = false := bne_eq_false_iff_eq.mpr c46
                                              clear c46
                                              obtain rfl := Option.some.inj H
                                              have p387 : 0 ≤ (x5_1 : Int) := of_decide_eq_true (by first | (with_reducible assumption) | assumption)
                                              have q387 : x5_1 < (t377.length : Int) := of_decide_eq_true (by first | (with_reducible assumption) | assumption)
                                              obtain ⟨ad387, e387, hx387_0⟩ := Kd.at_bool (Kd.R_reads' HO_4.out).2.2 x5_1 p387 q387
                                              (try rw [← Nbq44.out] at hx387_0)
                                              cases e387
                                              replace p387 := eq_true p387
                                              replace q387 := eq_true q387
                                              have p388 : 0 ≤ (x5_1 : Int) := of_decide_eq_true (by first | (with_reducible assumption) | assumption)
                                              have q388 : x5_1 < (t377.length : Int) := of_decide_eq_true (by first | (with_reducible assumption) | assumption)
                                              obtain ⟨ad388, e388, hx388_0⟩ := Kd.at_bool (Kd.R_reads' HO_4.out).2.2 x5_1 p388 q388
                                              (try rw [← Nbq44.out] at hx388_0)
                                              obtain rfl : ad387 = ad388 := (by injection e388)
                                              replace p388 := eq_true p388
                                              replace q388 := eq_true q388
                                              go_wp2
                                              go_ret
                                              exact ⟨by first | rfl | (simp [errW_none, errW_some] <;> rfl) | (simp only [← hji19]; first | rfl | (simp [errW_none, errW_some] <;> rfl)) | (simp [*, errW_none, errW_some] <;> rfl), by repeat (first | (with_reducible first | exact HB.out | apply below_alloc | apply pw_below_drewN | apply below_drew1) | exact HB.out)⟩
                                            · rw [if_neg c46] at H
                                              have c46b0 : (t381 == 4) = false := beq_eq_false_iff_ne.mpr c46
                                              have c46b1 : (t381 != 4) = true := bne_iff_ne.mpr c46
                                              by_cases c47 : t381 = 5
                                              · rw [if_pos c47] at H
                                                have c47b0 : (t381 == 5) = true := beq_iff_eq.mpr c47
                                                have c47b1 : (t381 != 5) = false := bne_eq_false_iff_eq.mpr c47
                                                clear c47
                                                obtain rfl := Option.some.inj H
                                                have p387 : 0 ≤ (x5_1 : Int) := of_decide_eq_true (by first | (with_reducible assumption) | assumption)
                                                have q387 : x5_1 < (t377.length : Int) := of_decide_eq_true (by first | (with_reducible assumption) | assumption)
                                                obtain ⟨ad387, e387, hx387_0⟩ := Kd.at_bool (Kd.R_reads' HO_4.out).2.2 x5_1 p387 q387
                                                (try rw [← Nbq44.out] at hx387_0)
                                                cases e387
                                                replace p387 := eq_true p387
                                                replace q387 := eq_true q387
                                                have p389 : 0 ≤ (x5_1 : Int) := of_decide_eq_true (by first | (with_reducible assumption) | assumption)
                                                have q389 : x5_1 < (t377.length : Int) := of_decide_eq_true (by first | (with_reducible assumption) | assumption)
                                                obtain ⟨ad389, e389, hx389_0⟩ := Kd.at_bool (Kd.R_reads' HO_4.out).2.2 x5_1 p389 q389
                                                (try rw [← Nbq44.out] at hx389_0)
                                                obtain rfl : ad387 = ad389 := (by injection e389)
                                                replace p389 := eq_true p389
                                                replace q389 := eq_true q389
                                                go_wp2
                                                go_ret
                                                exact ⟨by first | rfl | (simp [errW_none, errW_some] <;> rfl) | (simp only [← hji19]; first | rfl | (simp [errW_none, errW_some] <;> rfl)) | (simp [*, errW_none, errW_some] <;> rfl), by repeat (first | (with_reducible first | exact HB.out | apply below_alloc | apply pw_below_drewN | apply below_drew1) | exact HB.out)⟩
                                              · rw [if_neg c47] at H
                                                have c47b0 : (t381 == 5) = false := beq_eq_false_iff_ne.mpr c47
                                                have c47b1 : (t381 != 5) = true := bne_iff_ne.mpr c47
                                                by_cases c48 : t381 = 8
                                                · rw [if_pos c48] at H
                                                  have c48b0 : (t381 == 8) = true := beq_iff_eq.mpr c48
                                                  have c48b1 : (t381 != 8) = false := bne_eq_false_iff_eq.mpr c48
                                                  clear c48
                                                  obtain rfl := Option.some.inj H
                                                  have p387 : 0 ≤ (x5_1 : Int) := of_decide_eq_true (by first | (with_reducible assumption) | assumption)
                                                  have q387 : x5_1 < (t377.length : Int) := of_decide_eq_true (by first | (with_reducible assumption) | assumption)
                                                  obtain ⟨ad387, e387, hx387_0⟩ := Kd.at_bool (Kd.R_reads' HO_4.out).2.2 x5_1 p387 q387
                                                  (try rw [← Nbq44.out] at hx387_0)
                                                  cases e387
                                                  replace p387 := eq_true p387
                                                  replace q387 := eq_true q387
                                                  have p390 : 0 ≤ (x5_1 : Int) := of_decide_eq_true (by first | (with_reducible assumption) | assumption)
                                                  have q390 : x5_1 < (t377.length : Int) := of_decide_eq_true (by first | (with_reducible assumption) | assumption)
                                                  obtain ⟨ad390, e390, hx390_0⟩ := Kd.at_bool (Kd.R_reads' HO_4.out).2.2 x5_1 p390 q390
                                                  (try rw [← Nbq44.out] at hx390_0)
                                                  obtain rfl : ad387 = ad390 := (by injection e390)
                                                  replace p390 := eq_true p390
                                                  replace q390 := eq_true q390
                                                  go_wp2
                                                  go_ret
                                                  exact ⟨by first | rfl | (simp [errW_none, errW_some] <;> rfl) | (simp only [← hji19]; first | rfl | (simp [errW_none, errW_some] <;> rfl)) | (simp [*, errW_none, errW_some] <;> rfl), by repeat (first | (with_reducible first | exact HB.out | apply below_alloc | apply pw_below_drewN | apply below_drew1) | exact HB.out)⟩
                                                · rw [if_neg c48] at H
                                                  have c48b0 : (t381 == 8) = false := beq_eq_false_iff_ne.mpr c48
                                                  have c48b1 : (t381 != 8) = true := bne_iff_ne.mpr c48
                                                  by_cases c49 : x5_1 < (l0.length : Int)
                                                  · rw [if_pos c49] at H
                                                    have c49b0 : decide (x5_1 < (l0.length : Int)) = true := decide_eq_true c49
                                                    clear c49
                                                    replace H := Option.bind_eq_some_iff.mp H
                                                    obtain ⟨t392, A500, H⟩ := H
                                                    replace H : (if t392 = true then (some false) else (pentroughlaw11_ClusExtends.l0 kj28 l0 t376 t377 (wrap64 (x5_1 + 1)))) = some r := H
                                                    have A50 := Aside0.mk A500
                                                    clear A500
                                                    by_cases c51 : t392 = true
                                                    · subst c51
                                                      have H1 : (some false) = some r := by rw [if_pos rfl] at H; exact H
                                                      clear H
                                                      have H := H1
                                                      clear H1
                                                      obtain rfl := Option.some.inj H
                                                      have p387 : 0 ≤ (x5_1 : Int) := of_decide_eq_true (by first | (with_reducible assumption) | assumption)
                                                      have q387 : x5_1 < (t377.length : Int) := of_decide_eq_true (by first | (with_reducible assumption) | assumption)
                                                      obtain ⟨ad387, e387, hx387_0⟩ := Kd.at_bool (Kd.R_reads' HO_4.out).2.2 x5_1 p387 q387
                                                      (try rw [← Nbq44.out] at hx387_0)
                                                      cases e387
                                                      replace p387 := eq_true p387
                                                      replace q387 := eq_true q387
                                                      have p391 : 0 ≤ (x5_1 : Int) := of_decide_eq_true (by first | (with_reducible assumption) | assumption)
                                                      have q391 : x5_1 < (l0.length : Int) := of_decide_eq_true (by first | (with_reducible assumption) | assumption)
                                                      obtain ⟨ad391, e391, hx391_0⟩ := Kd.at_int HR0.out x5_1 p391 q391
                                                      obtain rfl : ad380 = ad391 := (by injection e391)
                                                      replace hx391_0 := (HB.out.cell (World.block_lt_of_cell? w _ hx391_0)).trans hx391_0
                                                      replace p391 := eq_true p391
                                                      replace q391 := eq_true q391
                                                      go_wp2_with (first | (go_at_call 21; (with_reducible refine (prop_Mark.calls (rd l0 x5_1) true _ A50.out).mono ?_); rintro e w52 ⟨rfl, hb⟩; have n0_ := Aside0.mk (Kd.R_below (by (with_reducible repeat (first | apply Kd.R_alloc | apply Kd.R_drewN | apply Kd.R_drew)); exact HO_4.out) hb); have n1_ := Aside0.mk (below_step (by repeat (first | (with_reducible first | exact HB.out | apply below_alloc | apply pw_below_drewN | apply below_drew1) | exact HB.out)) hb); clear HO_4; clear HB; have HO_4 := n0_; have HB := n1_; clear n0_ n1_; (try clear hb); (try clear hb2); (try clear hk); (try clear hi); have p393 : 0 ≤ (x5_1 : Int) := of_decide_eq_true (by first | (with_reducible assumption) | assumption); have q393 : x5_1 < (t377.length : Int) := of_decide_eq_true (by first | (with_reducible assumption) | assumption); obtain ⟨ad393, e393, hx393_0⟩ := Kd.at_bool (Kd.R_reads' HO_4.out).2.2 x5_1 p393 q393; (try rw [← Nbq44.out] at hx393_0); obtain rfl : ad387 = ad393 := (by injection e393); replace p393 := eq_true p393; replace q393 := eq_true q393))
                                                      go_ret
                                                      exact ⟨by first | rfl | (simp [errW_none, errW_some] <;> rfl) | (simp only [← hji19]; first | rfl | (simp [errW_none, errW_some] <;> rfl)) | (simp [*, errW_none, errW_some] <;> rfl), by repeat (first | (with_reducible first | exact HB.out | apply below_alloc | apply pw_below_drewN | apply below_drew1) | exact HB.out)⟩
                                                    · replace c51 := Bool.eq_false_iff.mpr c51
                                                      subst c51
                                                      have H1 : (pentroughlaw11_ClusExtends.l0 kj28 l0 t376 t377 (wrap64 (x5_1 + 1))) = some r := by rw [if_neg (show ¬ (false = true) by decide)] at H; exact H
                                                      clear H
                                                      have H := H1
                                                      clear H1
                                                      have H' := Aside0.mk H
                                                      clear H
                                                      have p387 : 0 ≤ (x5_1 : Int) := of_decide_eq_true (by first | (with_reducible assumption) | assumption)
                                                      have q387 : x5_1 < (t377.length : Int) := of_decide_eq_true (by first | (with_reducible assumption) | assumption)
                                                      obtain ⟨ad387, e387, hx387_0⟩ := Kd.at_bool (Kd.R_reads' HO_4.out).2.2 x5_1 p387 q387
                                                      (try rw [← Nbq44.out] at hx387_0)
                                                      cases e387
                                                      replace p387 := eq_true p387
                                                      replace q387 := eq_true q387
                                                      have p391 : 0 ≤ (x5_1 : Int) := of_decide_eq_true (by first | (with_reducible assumption) | assumption)
                                                      have q391 : x5_1 < (l0.length : Int) := of_decide_eq_true (by first | (with_reducible assumption) | assumption)
                                                      obtain ⟨ad391, e391, hx391_0⟩ := Kd.at_int HR0.out x5_1 p391 q391
                                                      obtain rfl : ad380 = ad391 := (by injection e391)
                                                      replace hx391_0 := (HB.out.cell (World.block_lt_of_cell? w _ hx391_0)).trans hx391_0
                                                      replace p391 := eq_true p391
                                                      replace q391 := eq_true q391
                                                      go_wp2_with (first | (go_at_call 21; (with_reducible refine (prop_Mark.calls (rd l0 x5_1) false _ A50.out).mono ?_); rintro e w53 ⟨rfl, hb⟩; have n0_ := Aside0.mk (Kd.R_below (by (with_reducible repeat (first | apply Kd.R_alloc | apply Kd.R_drewN | apply Kd.R_drew)); exact HO_4.out) hb); have n1_ := Aside0.mk (below_step (by repeat (first | (with_reducible first | exact HB.out | apply below_alloc | apply pw_below_drewN | apply below_drew1) | exact HB.out)) hb); clear HO_4; clear HB; have HO_4 := n0_; have HB := n1_; clear n0_ n1_; (try clear hb); (try clear hb2); (try clear hk); (try clear hi)))
                                                      go_roundg kj28
                                                      case measure => have := HK1.out; have := HJ22.out; have := HJ26.out; have := HJ28.out; omega
                                                      case rel => exact ⟨(wrap64 (x5_1 + 1)), (by first | rfl | (simp; done) | (simp [*]; done)), H', ⟨by have := HK1.out; have := HJ22.out; have := HJ26.out; have := HJ28.out; omega⟩, ⟨by (with_reducible repeat (first | apply Kd.R_alloc | apply Kd.R_drewN | apply Kd.R_drew)); exact HO_4.out⟩, ⟨by repeat (first | (with_reducible first | exact HB.out | apply below_alloc | apply pw_below_drewN | apply below_drew1) | exact HB.out)⟩⟩
                                                  · rw [if_neg c49] at H
                                                    exact absurd H (by simp)
                                          · replace c45 := Bool.eq_false_iff.mpr c45
                                            subst c45
                                            have H1 : (some false) = some r := by rw [if_neg (show ¬ (false = true) by decide)] at H; exact H
                                            clear H
                                            have H := H1
                                            clear H1
                                            obtain rfl := Option.some.inj H
                                            have p387 : 0 ≤ (x5_1 : Int) := of_decide_eq_true (by first | (with_reducible assumption) | assumption)
                                            have q387 : x5_1 < (t377.length : Int) := of_decide_eq_true (by first | (with_reducible assumption) | assumption)
                                            obtain ⟨ad387, e387, hx387_0⟩ := Kd.at_bool (Kd.R_reads' HO_4.out).2.2 x5_1 p387 q387
                                            (try rw [← Nbq44.out] at hx387_0)
                                            cases e387
                                            replace p387 := eq_true p387
                                            replace q387 := eq_true q387
                                            go_wp2
                                            go_ret
                                            exact ⟨by first | rfl | (simp [errW_none, errW_some] <;> rfl) | (simp only [← hji19]; first | rfl | (simp [errW_none, errW_some] <;> rfl)) | (simp [*, errW_none, errW_some] <;> rfl), by repeat (first | (with_reducible first | exact HB.out | apply below_alloc | apply pw_below_drewN | apply below_drew1) | exact HB.out)⟩
                                        · rw [if_neg c43] at H
                                          exact absurd H (by simp)
                                      · rw [if_neg c42] at H
                                        exact absurd H (by simp)
                                    · replace c41 := Bool.eq_false_iff.mpr c41
                                      subst c41
                                      have H1 : (if t381 = 4 then (if 0 ≤ x5_1 then (if x5_1 < (t377.length : Int) then (if rdOf false t377 x5_1 = true then (some false) else (pentroughlaw11_ClusExtends.l0 kj28 l0 t376 t377 (wrap64 (x5_1 + 1)))) else (none)) else (none)) else (if t381 = 5 then (if 0 ≤ x5_1 then (if x5_1 < (t377.length : Int) then (if rdOf false t377 x5_1 = true then (some false) else (pentroughlaw11_ClusExtends.l0 kj28 l0 t376 t377 (wrap64 (x5_1 + 1)))) else (none)) else (none)) else (if t381 = 8 then (if 0 ≤ x5_1 then (if x5_1 < (t377.length : Int) then (if rdOf false t377 x5_1 = true then (some false) else (pentroughlaw11_ClusExtends.l0 kj28 l0 t376 t377 (wrap64 (x5_1 + 1)))) else (none)) else (none)) else (if 0 ≤ x5_1 then (if x5_1 < (l0.length : Int) then ((prop_Mark.f (rd l0 x5_1)).bind fun t398 => (if t398 = true then (if x5_1 < (t377.length : Int) then (if rdOf false t377 x5_1 = true then (some false) else (pentroughlaw11_ClusExtends.l0 kj28 l0 t376 t377 (wrap64 (x5_1 + 1)))) else (none)) else (pentroughlaw11_ClusExtends.l0 kj28 l0 t376 t377 (wrap64 (x5_1 + 1))))) else (none)) else (none))))) = some r := by rw [if_neg (show ¬ (false = true) by decide)] at H; exact H
                                      clear H
                                      have H := H1
                                      clear H1
                                      by_cases c54 : t381 = 4
                                      · rw [if_pos c54] at H
                                        have c54b0 : (t381 == 4) = true := beq_iff_eq.mpr c54
                                        have c54b1 : (t381 != 4) = false := bne_eq_false_iff_eq.mpr c54
                                        clear c54
                                        by_cases c55 : 0 ≤ x5_1
                                        · rw [if_pos c55] at H
                                          have c55b0 : decide (0 ≤ x5_1) = true := decide_eq_true c55
                                          clear c55
                                          by_cases c56 : x5_1 < (t377.length : Int)
                                          · rw [if_pos c56] at H
                                            have c56b0 : decide (x5_1 < (t377.length : Int)) = true := decide_eq_true c56
                                            clear c56
                                            obtain ⟨bq57, hbq57⟩ : ∃ b_ : Bool, b_ = (rdOf false t377 x5_1) := ⟨_, rfl⟩
                                            replace H : (if bq57 = true then (some false) else (pentroughlaw11_ClusExtends.l0 kj28 l0 t376 t377 (wrap64 (x5_1 + 1)))) = some r := by rw [← hbq57] at H; exact H
                                            have Nbq57 := Aside0.mk hbq57
                                            clear hbq57
                                            by_cases c58 : bq57 = true
                                            · subst c58
                                              have H1 : (some false) = some r := by rw [if_pos rfl] at H; exact H
                                              clear H
                                              have H := H1
                                              clear H1
                                              obtain rfl := Option.some.inj H
                                              have p394 : 0 ≤ (x5_1 : Int) := of_decide_eq_true (by first | (with_reducible assumption) | assumption)
                                              have q394 : x5_1 < (t377.length : Int) := of_decide_eq_true (by first | (with_reducible assumption) | assumption)
                                              obtain ⟨ad394, e394, hx394_0⟩ := Kd.at_bool (Kd.R_reads' HO_4.out).2.2 x5_1 p394 q394
                                              (try rw [← Nbq57.out] at hx394_0)
                                              cases e394
                                              replace p394 := eq_true p394
                                              replace q394 := eq_true q394
                                              go_wp2
                                              go_ret
                                              exact ⟨by first | rfl | (simp [errW_none, errW_some] <;> rfl) | (simp only [← hji19]; first | rfl | (simp [errW_none, errW_some] <;> rfl)) | (simp [*, errW_none, errW_some] <;> rfl), by repeat (first | (with_reducible first | exact HB.out | apply below_alloc | apply pw_below_drewN | apply below_drew1) | exact HB.out)⟩
                                            · replace c58 := Bool.eq_false_iff.mpr c58
                                              subst c58
                                              have H1 : (pentroughlaw11_ClusExtends.l0 kj28 l0 t376 t377 (wrap64 (x5_1 + 1))) = some r := by rw [if_neg (show ¬ (false = true) by decide)] at H; exact H
                                              clear H
                                              have H := H1
                                              clear H1
                                              have H' := Aside0.mk H
                                              clear H
                                              have p394 : 0 ≤ (x5_1 : Int) := of_decide_eq_true (by first | (with_reducible assumption) | assumption)
                                              have q394 : x5_1 < (t377.length : Int) := of_decide_eq_true (by first | (with_reducible assumption) | assumption)
                                              obtain ⟨ad394, e394, hx394_0⟩ := Kd.at_bool (Kd.R_reads' HO_4.out).2.2 x5_1 p394 q394
                                              (try rw [← Nbq57.out] at hx394_0)
                                              cases e394
                                              replace p394 := eq_true p394
                                              replace q394 := eq_true q394
                                              go_wp2
                                              go_roundg kj28
                                              case measure => have := HK1.out; have := HJ22.out; have := HJ26.out; have := HJ28.out; omega
                                              case rel => exact ⟨(wrap64 (x5_1 + 1)), (by first | rfl | (simp; done) | (simp [*]; done)), H', ⟨by have := HK1.out; have := HJ22.out; have := HJ26.out; have := HJ28.out; omega⟩, ⟨by (with_reducible repeat (first | apply Kd.R_alloc | apply Kd.R_drewN | apply Kd.R_drew)); exact HO_4.out⟩, ⟨by repeat (first | (with_reducible first | exact HB.out | apply below_alloc | apply pw_below_drewN | apply below_drew1) | exact HB.out)⟩⟩
                                          · rw [if_neg c56] at H
                                            exact absurd H (by simp)
                                        · rw [if_neg c55] at H
                                          exact absurd H (by simp)
                                      · rw [if_neg c54] at H
                                        have c54b0 : (t381 == 4) = false := beq_eq_false_iff_ne.mpr c54
                                        have c54b1 : (t381 != 4) = true := bne_iff_ne.mpr c54
                                        by_cases c59 : t381 = 5
                                        · rw [if_pos c59] at H
                                          have c59b0 : (t381 == 5) = true := beq_iff_eq.mpr c59
                                          have c59b1 : (t381 != 5) = false := bne_eq_false_iff_eq.mpr c59
                                          clear c59
                                          by_cases c60 : 0 ≤ x5_1
                                          · rw [if_pos c60] at H
                                            have c60b0 : decide (0 ≤ x5_1) = true := decide_eq_true c60
                                            clear c60
                                            by_cases c61 : x5_1 < (t377.length : Int)
                                            · rw [if_pos c61] at H
                                              have c61b0 : decide (x5_1 < (t377.length : Int)) = true := decide_eq_true c61
                                              clear c61
                                              obtain ⟨bq62, hbq62⟩ : ∃ b_ : Bool, b_ = (rdOf false t377 x5_1) := ⟨_, rfl⟩
                                              replace H : (if bq62 = true then (some false) else (pentroughlaw11_ClusExtends.l0 kj28 l0 t376 t377 (wrap64 (x5_1 + 1)))) = some r := by rw [← hbq62] at H; exact H
                                              have Nbq62 := Aside0.mk hbq62
                                              clear hbq62
                                              by_cases c63 : bq62 = true
                                              · subst c63
                                                have H1 : (some false) = some r := by rw [if_pos rfl] at H; exact H
                                                clear H
                                                have H := H1
                                                clear H1
                                                obtain rfl := Option.some.inj H
                                                have p395 : 0 ≤ (x5_1 : Int) := of_decide_eq_true (by first | (with_reducible assumption) | assumption)
                                                have q395 : x5_1 < (t377.length : Int) := of_decide_eq_true (by first | (with_reducible assumption) | assumption)
                                                obtain ⟨ad395, e395, hx395_0⟩ := Kd.at_bool (Kd.R_reads' HO_4.out).2.2 x5_1 p395 q395
                                                (try rw [← Nbq62.out] at hx395_0)
                                                cases e395
                                                replace p395 := eq_true p395
                                                replace q395 := eq_true q395
                                                go_wp2
                                                go_ret
                                                exact ⟨by first | rfl | (simp [errW_none, errW_some] <;> rfl) | (simp only [← hji19]; first | rfl | (simp [errW_none, errW_some] <;> rfl)) | (simp [*, errW_none, errW_some] <;> rfl), by repeat (first | (with_reducible first | exact HB.out | apply below_alloc | apply pw_below_drewN | apply below_drew1) | exact HB.out)⟩
                                              · replace c63 := Bool.eq_false_iff.mpr c63
                                                subst c63
                                                have H1 : (pentroughlaw11_ClusExtends.l0 kj28 l0 t376 t377 (wrap64 (x5_1 + 1))) = some r := by rw [if_neg (show ¬ (false = true) by decide)] at H; exact H
                                                clear H
                                                have H := H1
                                                clear H1
                                                have H' := Aside0.mk H
                                                clear H
                                                have p395 : 0 ≤ (x5_1 : Int) := of_decide_eq_true (by first | (with_reducible assumption) | assumption)
                                                have q395 : x5_1 < (t377.length : Int) := of_decide_eq_true (by first | (with_reducible assumption) | assumption)
                                                obtain ⟨ad395, e395, hx395_0⟩ := Kd.at_bool (Kd.R_reads' HO_4.out).2.2 x5_1 p395 q395
                                                (try rw [← Nbq62.out] at hx395_0)
                                                cases e395
                                                replace p395 := eq_true p395
                                                replace q395 := eq_true q395
                                                go_wp2
                                                go_roundg kj28
                                                case measure => have := HK1.out; have := HJ22.out; have := HJ26.out; have := HJ28.out; omega
                                                case rel => exact ⟨(wrap64 (x5_1 + 1)), (by first | rfl | (simp; done) | (simp [*]; done)), H', ⟨by have := HK1.out; have := HJ22.out; have := HJ26.out; have := HJ28.out; omega⟩, ⟨by (with_reducible repeat (first | apply Kd.R_alloc | apply Kd.R_drewN | apply Kd.R_drew)); exact HO_4.out⟩, ⟨by repeat (first | (with_reducible first | exact HB.out | apply below_alloc | apply pw_below_drewN | apply below_drew1) | exact HB.out)⟩⟩
                                            · rw [if_neg c61] at H
                                              exact absurd H (by simp)
                                          · rw [if_neg c60] at H
                                            exact absurd H (by simp)
                                        · rw [if_neg c59] at H
                                          have c59b0 : (t381 == 5) = false := beq_eq_false_iff_ne.mpr c59
                                          have c59b1 : (t381 != 5) = true := bne_iff_ne.mpr c59
                                          by_cases c64 : t381 = 8
                                          · rw [if_pos c64] at H
                                            have c64b0 : (t381 == 8) = true := beq_iff_eq.mpr c64
                                            have c64b1 : (t381 != 8) = false := bne_eq_false_iff_eq.mpr c64
                                            clear c64
                                            by_cases c65 : 0 ≤ x5_1
                                            · rw [if_pos c65] at H
                                              have c65b0 : decide (0 ≤ x5_1) = true := decide_eq_true c65
                                              clear c65
                                              by_cases c66 : x5_1 < (t377.length : Int)
                                              · rw [if_pos c66] at H
                                                have c66b0 : decide (x5_1 < (t377.length : Int)) = true := decide_eq_true c66
                                                clear c66
                                                obtain ⟨bq67, hbq67⟩ : ∃ b_ : Bool, b_ = (rdOf false t377 x5_1) := ⟨_, rfl⟩
                                                replace H : (if bq67 = true then (some false) else (pentroughlaw11_ClusExtends.l0 kj28 l0 t376 t377 (wrap64 (x5_1 + 1)))) = some r := by rw [← hbq67] at H; exact H
                                                have Nbq67 := Aside0.mk hbq67
                                                clear hbq67
                                                by_cases c68 : bq67 = true
                                                · subst c68
                                                  have H1 : (some false) = some r := by rw [if_pos rfl] at H; exact H
                                                  clear H
                                                  have H := H1
                                                  clear H1
                                                  obtain rfl := Option.some.inj H
                                                  have p396 : 0 ≤ (x5_1 : Int) := of_decide_eq_true (by first | (with_reducible assumption) | assumption)
                                                  have q396 : x5_1 < (t377.length : Int) := of_decide_eq_true (by first | (with_reducible assumption) | assumption)
                                                  obtain ⟨ad396, e396, hx396_0⟩ := Kd.at_bool (Kd.R_reads' HO_4.out).2.2 x5_1 p396 q396
                                                  (try rw [← Nbq67.out] at hx396_0)
                                                  cases e396
                                                  replace p396 := eq_true p396
                                                  replace q396 := eq_true q396
                                                  go_wp2
                                                  go_ret
                                                  exact ⟨by first | rfl | (simp [errW_none, errW_some] <;> rfl) | (simp only [← hji19]; first | rfl | (simp [errW_none, errW_some] <;> rfl)) | (simp [*, errW_none, errW_some] <;> rfl), by repeat (first | (with_reducible first | exact HB.out | apply below_alloc | apply pw_below_drewN | apply below_drew1) | exact HB.out)⟩
                                                · replace c68 := Bool.eq_false_iff.mpr c68
                                                  subst c68
                                                  have H1 : (pentroughlaw11_ClusExtends.l0 kj28 l0 t376 t377 (wrap64 (x5_1 + 1))) = some r := by rw [if_neg (show ¬ (false = true) by decide)] at H; exact H
                                                  clear H
                                                  have H := H1
                                                  clear H1
                                                  have H' := Aside0.mk H
                                                  clear H
                                                  have p396 : 0 ≤ (x5_1 : Int) := of_decide_eq_true (by first | (with_reducible assumption) | assumption)
                                                  have q396 : x5_1 < (t377.length : Int) := of_decide_eq_true (by first | (with_reducible assumption) | assumption)
                                                  obtain ⟨ad396, e396, hx396_0⟩ := Kd.at_bool (Kd.R_reads' HO_4.out).2.2 x5_1 p396 q396
                                                  (try rw [← Nbq67.out] at hx396_0)
                                                  cases e396
                                                  replace p396 := eq_true p396
                                                  replace q396 := eq_true q396
                                                  go_wp2
                                                  go_roundg kj28
                                                  case measure => have := HK1.out; have := HJ22.out; have := HJ26.out; have := HJ28.out; omega
                                                  case rel => exact ⟨(wrap64 (x5_1 + 1)), (by first | rfl | (simp; done) | (simp [*]; done)), H', ⟨by have := HK1.out; have := HJ22.out; have := HJ26.out; have := HJ28.out; omega⟩, ⟨by (with_reducible repeat (first | apply Kd.R_alloc | apply Kd.R_drewN | apply Kd.R_drew)); exact HO_4.out⟩, ⟨by repeat (first | (with_reducible first | exact HB.out | apply below_alloc | apply pw_below_drewN | apply below_drew1) | exact HB.out)⟩⟩
                                              · rw [if_neg c66] at H
                                                exact absurd H (by simp)
                                            · rw [if_neg c65] at H
                                              exact absurd H (by simp)
                                          · rw [if_neg c64] at H
                                            have c64b0 : (t381 == 8) = false := beq_eq_false_iff_ne.mpr c64
                                            have c64b1 : (t381 != 8) = true := bne_iff_ne.mpr c64
                                            by_cases c69 : 0 ≤ x5_1
                                            · rw [if_pos c69] at H
                                              have c69b0 : decide (0 ≤ x5_1) = true := decide_eq_true c69
                                              clear c69
                                              by_cases c70 : x5_1 < (l0.length : Int)
                                              · rw [if_pos c70] at H
                                                have c70b0 : decide (x5_1 < (l0.length : Int)) = true := decide_eq_true c70
                                                clear c70
                                                replace H := Option.bind_eq_some_iff.mp H
                                                obtain ⟨t398, A710, H⟩ := H
                                                replace H : (if t398 = true then (if x5_1 < (t377.length : Int) then (if rdOf false t377 x5_1 = true then (some false) else (pentroughlaw11_ClusExtends.l0 kj28 l0 t376 t377 (wrap64 (x5_1 + 1)))) else (none)) else (pentroughlaw11_ClusExtends.l0 kj28 l0 t376 t377 (wrap64 (x5_1 + 1)))) = some r := H
                                                have A71 := Aside0.mk A710
                                                clear A710
                                                by_cases c72 : t398 = true
                                                · subst c72
                                                  have H1 : (if x5_1 < (t377.length : Int) then (if rdOf false t377 x5_1 = true then (some false) else (pentroughlaw11_ClusExtends.l0 kj28 l0 t376 t377 (wrap64 (x5_1 + 1)))) else (none)) = some r := by rw [if_pos rfl] at H; exact H
                                                  clear H
                                                  have H := H1
                                                  clear H1
                                                  by_cases c73 : x5_1 < (t377.length : Int)
                                                  · rw [if_pos c73] at H
                                                    have c73b0 : decide (x5_1 < (t377.length : Int)) = true := decide_eq_true c73
                                                    clear c73
                                                    obtain ⟨bq74, hbq74⟩ : ∃ b_ : Bool, b_ = (rdOf false t377 x5_1) := ⟨_, rfl⟩
                                                    replace H : (if bq74 = true then (some false) else (pentroughlaw11_ClusExtends.l0 kj28 l0 t376 t377 (wrap64 (x5_1 + 1)))) = some r := by rw [← hbq74] at H; exact H
                                                    have Nbq74 := Aside0.mk hbq74
                                                    clear hbq74
                                                    by_cases c75 : bq74 = true
                                                    · subst c75
                                                      have H1 : (some false) = some r := by rw [if_pos rfl] at H; exact H
                                                      clear H
                                                      have H := H1
                                                      clear H1
                                                      obtain rfl := Option.some.inj H
                                                      have p397 : 0 ≤ (x5_1 : Int) := of_decide_eq_true (by first | (with_reducible assumption) | assumption)
                                                      have q397 : x5_1 < (l0.length : Int) := of_decide_eq_true (by first | (with_reducible assumption) | assumption)
                                                      obtain ⟨ad397, e397, hx397_0⟩ := Kd.at_int HR0.out x5_1 p397 q397
                                                      obtain rfl : ad380 = ad397 := (by injection e397)
                                                      replace hx397_0 := (HB.out.cell (World.block_lt_of_cell? w _ hx397_0)).trans hx397_0
                                                      replace p397 := eq_true p397
                                                      replace q397 := eq_true q397
                                                      go_wp2_with (first | (go_at_call 21; (with_reducible refine (prop_Mark.calls (rd l0 x5_1) true _ A71.out).mono ?_); rintro e w76 ⟨rfl, hb⟩; have n0_ := Aside0.mk (Kd.R_below (by (with_reducible repeat (first | apply Kd.R_alloc | apply Kd.R_drewN | apply Kd.R_drew)); exact HO_4.out) hb); have n1_ := Aside0.mk (below_step (by repeat (first | (with_reducible first | exact HB.out | apply below_alloc | apply pw_below_drewN | apply below_drew1) | exact HB.out)) hb); clear HO_4; clear HB; have HO_4 := n0_; have HB := n1_; clear n0_ n1_; (try clear hb); (try clear hb2); (try clear hk); (try clear hi); have p399 : 0 ≤ (x5_1 : Int) := of_decide_eq_true (by first | (with_reducible assumption) | assumption); have q399 : x5_1 < (t377.length : Int) := of_decide_eq_true (by first | (with_reducible assumption) | assumption); obtain ⟨ad399, e399, hx399_0⟩ := Kd.at_bool (Kd.R_reads' HO_4.out).2.2 x5_1 p399 q399; (try rw [← Nbq74.out] at hx399_0); cases e399; replace p399 := eq_true p399; replace q399 := eq_true q399))
                                                      go_ret
                                                      exact ⟨by first | rfl | (simp [errW_none, errW_some] <;> rfl) | (simp only [← hji19]; first | rfl | (simp [errW_none, errW_some] <;> rfl)) | (simp [*, errW_none, errW_some] <;> rfl), by repeat (first | (with_reducible first | exact HB.out | apply below_alloc | apply pw_below_drewN | apply below_drew1) | exact HB.out)⟩
                                                    · replace c75 := Bool.eq_false_iff.mpr c75
                                                      subst c75
                                                      have H1 : (pentroughlaw11_ClusExtends.l0 kj28 l0 t376 t377 (wrap64 (x5_1 + 1))) = some r := by rw [if_neg (show ¬ (false = true) by decide)] at H; exact H
                                                      clear H
                                                      have H := H1
                                                      clear H1
                                                      have H' := Aside0.mk H
                                                      clear H
                                                      have p397 : 0 ≤ (x5_1 : Int) := of_decide_eq_true (by first | (with_reducible assumption) | assumption)
                                                      have q397 : x5_1 < (l0.length : Int) := of_decide_eq_true (by first | (with_reducible assumption) | assumption)
                                                      obtain ⟨ad397, e397, hx397_0⟩ := Kd.at_int HR0.out x5_1 p397 q397
                                                      obtain rfl : ad380 = ad397 := (by injection e397)
                                                      replace hx397_0 := (HB.out.cell (World.block_lt_of_cell? w _ hx397_0)).trans hx397_0
                                                      replace p397 := eq_true p397
                                                      replace q397 := eq_true q397
                                                      go_wp2_with (first | (go_at_call 21; (with_reducible refine (prop_Mark.calls (rd l0 x5_1) true _ A71.out).mono ?_); rintro e w77 ⟨rfl, hb⟩; have n0_ := Aside0.mk (Kd.R_below (by (with_reducible repeat (first | apply Kd.R_alloc | apply Kd.R_drewN | apply Kd.R_drew)); exact HO_4.out) hb); have n1_ := Aside0.mk (below_step (by repeat (first | (with_reducible first | exact HB.out | apply below_alloc | apply pw_below_drewN | apply below_drew1) | exact HB.out)) hb); clear HO_4; clear HB; have HO_4 := n0_; have HB := n1_; clear n0_ n1_; (try clear hb); (try clear hb2); (try clear hk); (try clear hi); have p399 : 0 ≤ (x5_1 : Int) := of_decide_eq_true (by first | (with_reducible assumption) | assumption); have q399 : x5_1 < (t377.length : Int) := of_decide_eq_true (by first | (with_reducible assumption) | assumption); obtain ⟨ad399, e399, hx399_0⟩ := Kd.at_bool (Kd.R_reads' HO_4.out).2.2 x5_1 p399 q399; (try rw [← Nbq74.out] at hx399_0); cases e399; replace p399 := eq_true p399; replace q399 := eq_true q399))
                                                      go_roundg kj28
                                                      case measure => have := HK1.out; have := HJ22.out; have := HJ26.out; have := HJ28.out; omega
                                                      case rel => exact ⟨(wrap64 (x5_1 + 1)), (by first | rfl | (simp; done) | (simp [*]; done)), H', ⟨by have := HK1.out; have := HJ22.out; have := HJ26.out; have := HJ28.out; omega⟩, ⟨by (with_reducible repeat (first | apply Kd.R_alloc | apply Kd.R_drewN | apply Kd.R_drew)); exact HO_4.out⟩, ⟨by repeat (first | (with_reducible first | exact HB.out | apply below_alloc | apply pw_below_drewN | apply below_drew1) | exact HB.out)⟩⟩
                                                  · rw [if_neg c73] at H
                                                    exact absurd H (by simp)
                                                · replace c72 := Bool.eq_false_iff.mpr c72
                                                  subst c72
                                                  have H1 : (pentroughlaw11_ClusExtends.l0 kj28 l0 t376 t377 (wrap64 (x5_1 + 1))) = some r := by rw [if_neg (show ¬ (false = true) by decide)] at H; exact H
                                                  clear H
                                                  have H := H1
                                                  clear H1
                                                  have H' := Aside0.mk H
                                                  clear H
                                                  have p397 : 0 ≤ (x5_1 : Int) := of_decide_eq_true (by first | (with_reducible assumption) | assumption)
                                                  have q397 : x5_1 < (l0.length : Int) := of_decide_eq_true (by first | (with_reducible assumption) | assumption)
                                                  obtain ⟨ad397, e397, hx397_0⟩ := Kd.at_int HR0.out x5_1 p397 q397
                                                  obtain rfl : ad380 = ad397 := (by injection e397)
                                                  replace hx397_0 := (HB.out.cell (World.block_lt_of_cell? w _ hx397_0)).trans hx397_0
                                                  replace p397 := eq_true p397
                                                  replace q397 := eq_true q397
                                                  go_wp2_with (first | (go_at_call 21; (with_reducible refine (prop_Mark.calls (rd l0 x5_1) false _ A71.out).mono ?_); rintro e w78 ⟨rfl, hb⟩; have n0_ := Aside0.mk (Kd.R_below (by (with_reducible repeat (first | apply Kd.R_alloc | apply Kd.R_drewN | apply Kd.R_drew)); exact HO_4.out) hb); have n1_ := Aside0.mk (below_step (by repeat (first | (with_reducible first | exact HB.out | apply below_alloc | apply pw_below_drewN | apply below_drew1) | exact HB.out)) hb); clear HO_4; clear HB; have HO_4 := n0_; have HB := n1_; clear n0_ n1_; (try clear hb); (try clear hb2); (try clear hk); (try clear hi)))
                                                  go_roundg kj28
                                                  case measure => have := HK1.out; have := HJ22.out; have := HJ26.out; have := HJ28.out; omega
                                                  case rel => exact ⟨(wrap64 (x5_1 + 1)), (by first | rfl | (simp; done) | (simp [*]; done)), H', ⟨by have := HK1.out; have := HJ22.out; have := HJ26.out; have := HJ28.out; omega⟩, ⟨by (with_reducible repeat (first | apply Kd.R_alloc | apply Kd.R_drewN | apply Kd.R_drew)); exact HO_4.out⟩, ⟨by repeat (first | (with_reducible first | exact HB.out | apply below_alloc | apply pw_below_drewN | apply below_drew1) | exact HB.out)⟩⟩
                                              · rw [if_neg c70] at H
                                                exact absurd H (by simp)
                                            · rw [if_neg c69] at H
                                              exact absurd H (by simp)
                  · rw [if_neg c21] at H
                    exact absurd H (by simp)
                · rw [if_neg c20] at H
                  exact absurd H (by simp)
            · rw [if_neg c11] at H
              exact absurd H (by simp)
          · rw [if_neg c10] at H
            have c10b0 : decide (x5_1 < (l0.length : Int)) = false := decide_eq_false c10
            clear c10
            obtain rfl := Option.some.inj H
            go_wp2
            go_ret
            exact ⟨by first | rfl | (simp [errW_none, errW_some] <;> rfl) | (simp [*, errW_none, errW_some] <;> rfl), by repeat (first | (with_reducible first | exact HB.out | apply below_alloc | apply pw_below_drewN | apply below_drew1) | exact HB.out)⟩
    · rw [if_neg c6] at H
      have c6b0 : ((t377.length : Int) == (l0.length : Int)) = false := beq_eq_false_iff_ne.mpr c6
      have c6b1 : ((t377.length : Int) != (l0.length : Int)) = true := bne_iff_ne.mpr c6
      have c6b2 : (t377.length == l0.length) = false := by first | simpa using c6 | (simp at c6 ⊢; omega)
      obtain rfl := Option.some.inj H
      go_enter Try.func13, Try.ntmps13
      go_wp2_with (first | ((with_reducible refine gate_callee (f := 24) rfl ?_); refine goesL_ (some 10) rfl rfl Try.func24 (by kernel_rfl) rfl #[] rfl (by (try simp only [List.map_toArray, List.map_cons, List.map_nil]); first | done | rfl | (simp only [List.length_drop, List.length_take]; rfl)) ?_; (with_reducible refine (pentroughlaw11_awake.calls k  t376 _ A2.out).mono ?_); rintro e w79 ⟨rfl, hb⟩; refine ⟨_, rfl, ?_⟩; have n0_ := Aside0.mk (below_step (by repeat (first | (with_reducible first | exact HB.out | apply below_alloc | apply pw_below_drewN | apply below_drew1) | exact HB.out)) hb); clear HB; have HB := n0_; clear n0_; (try clear hb); (try clear hb2); (try clear hk); (try clear hi)) | ((with_reducible refine gate_callee (f := 34) rfl ?_); refine goesL_ (some 16) rfl rfl Try.func34 (by kernel_rfl) rfl #[.slice A0 l0.length c0] rfl (by (try simp only [List.map_toArray, List.map_cons, List.map_nil]); first | done | rfl | (simp only [List.length_drop, List.length_take]; rfl)) ?_; (with_reducible refine (clus_Cuts.calls k _ _ l0 t377 _ ?side1 ?side2 A5.out).mono ?_); (case side1 => repeat (first | exact (Kd.C_below HR0.out HB.out) | (with_reducible refine Kd.C_alloc ?_ _) | (with_reducible refine Kd.C_drewN ?_ _) | (with_reducible refine Kd.C_drew ?_))); (case side2 => exact HC0.out); rintro e w80 ⟨v378, rfl, ho0, hb⟩; refine ⟨_, rfl, ?_⟩; have n0_ := Aside0.mk (Kd.R_lower ho0 (below_size (by repeat (first | (with_reducible first | exact HB.out | apply below_alloc | apply pw_below_drewN | apply below_drew1) | exact HB.out)))); have n1_ := Aside0.mk (below_step (by repeat (first | (with_reducible first | exact HB.out | apply below_alloc | apply pw_below_drewN | apply below_drew1) | exact HB.out)) hb); clear HB; have HO379 := n0_; have HB := n1_; clear n0_ n1_; (try clear hb); (try clear hb2); (try clear hk); (try clear hi); (try clear ho0); obtain ⟨Ao81, co81, eo81⟩ := Kd.R_slice HO379.out; subst eo81))
      go_ret
      exact ⟨by first | rfl | (simp [errW_none, errW_some] <;> rfl) | (simp [*, errW_none, errW_some] <;> rfl), by repeat (first | (with_reducible first | exact HB.out | apply below_alloc | apply pw_below_drewN | apply below_drew1) | exact HB.out)⟩

/-- THE ONE PURE STATEMENT of pentroughlaw11_ClusExtends: yours. -/
def pentroughlaw11_ClusExtends.Pure : Prop := ∀ (l0 : List Int), l0.length ≤ maxLen → l0.length * 8 ≤ 140737488351232 → (∀ x ∈ l0, (Lit.int .i64 x).wf = true) → ∃ k, pentroughlaw11_ClusExtends.f k l0 = some true
theorem pentroughlaw11_ClusExtends.walk (P : pentroughlaw11_ClusExtends.Pure) (a0 : Option Addr) (len0 cap0 : Nat) (z0 : List Int) (w : World) (w0 : (a0 = none ∧ len0 = 0 ∧ cap0 = 0 ∧ z0 = []) ∨ ∃ x, a0 = some x ∧ len0 ≤ cap0 ∧ cap0 ≤ maxLen ∧ z0.length = cap0 ∧ (∀ i, i < z0.length → w.cell? (x.add i) = some (.int .i64 (z0.getD i 0))) ∧ ∀ n ∈ z0, (Lit.int .i64 n).wf = true) (y0 : len0 * 8 ≤ 140737488351232) :
    Calls Try.prog 13 #[.slice a0 len0 cap0] w fun e w' => e = .returned (.bool true) ∧ Below w.heap.size w w' := by
  obtain ⟨l0, rfl, hr0, hm0, hw0, hc0⟩ := ReadsInt.ofRowC w0
  obtain ⟨k, h⟩ := P l0 hm0 y0 hw0
  refine (pentroughlaw11_ClusExtends.calls k _ _ l0 true w (Kd.C_of_reads (d := (0 : Int)) (h1 := fun _ => rfl) hr0) hc0 h).mono ?_
  rintro e w' ⟨rfl, hd⟩
  exact ⟨rfl, hd⟩

end Go.Proofs.Ytdpgdnifabfhgaa.G
