/- What extends begins nothing anew; ahead of and behind what controls all ends, but between CR and LF. No condition. -/
import Derived.Test.YtdpgdnifabfhgaaG29
import Derived.Test.YtdpgdnifabfhgaaClus
namespace Go.Proofs.Ytdpgdnifabfhgaa.Pure
open Go.RowKit Go.Proofs.Ytdpgdnifabfhgaa.G Go.Proofs.YtdpgdnifabfhgaaW.PrintWords Go.Proofs.YtdpgdnifabfhgaaW.PrintLast

theorem awake11e : pentroughlaw11_awake.f 1000 = some true := by decide +kernel
theorem sane_next_fin : ∀ g : Fin 15, ∀ p o : Bool, ∀ q : Bool, saneC ⟨true, (g.val : Int), if (g.val : Int) = 14 then true else if (g.val : Int) = 4 ∨ (g.val : Int) = 5 then p && q else false, if (g.val : Int) = 6 then o else false⟩ = true := by decide +kernel
theorem sane_next (s : CS) (g : Int) (h0 : 0 ≤ g) (h1 : g ≤ 14) : saneC (nextK s g) = true := by
  have := sane_next_fin ⟨g.toNat, by omega⟩ (if saneC s then s else c0).pict (!(if saneC s then s else c0).odd) ((if saneC s then s else c0).kind != 5)
  simp only [Int.toNat_of_nonneg h0] at this
  exact this
theorem runK_snoc (l : List Int) (g : Int) : ∀ s, runK s (l ++ [g]) = nextK (runK s l) g := by
  induction l with
  | nil => intro s; rfl
  | cons x l ih => intro s; exact ih _
theorem cutsK_at (l : List Int) : ∀ (s : CS) (i : Nat) (h : i < l.length), (cutsK s l)[i]? = some (endsK (runK s (l.take i)) l[i]) := by
  induction l with
  | nil => intro s i h; simp at h
  | cons g l ih =>
    intro s i h
    cases i with
    | zero => rfl
    | succ i =>
      have := ih (nextK s g) i (by simpa using h)
      simpa [cutsK, runK] using this
/-- What is told ahead of value i, i behind another: by the two kinds. -/
theorem cut_at (l : List Int) (i : Nat) (h0 : 0 < i) (h : i < l.length) : ∃ p o, rdOf false (cuts c0 l) (i : Int) = endsC (gcb l[i - 1]) p o (gcb l[i]) := by
  have hi : i < (l.map gcb).length := by simpa using h
  have h1 := cutsK_at (l.map gcb) c0 i hi
  have ht : (l.map gcb).take i = (l.map gcb).take (i - 1) ++ [gcb l[i - 1]] := by
    have := List.take_succ_eq_append_getElem (l := l.map gcb) (i := i - 1) (by simp; omega)
    rw [show i - 1 + 1 = i by omega] at this
    rw [this]; simp
  rw [ht, runK_snoc] at h1
  obtain ⟨g0, g1⟩ := gcb_range l[i - 1]
  refine ⟨(nextK (runK c0 ((l.map gcb).take (i - 1))) (gcb l[i - 1])).pict, (nextK (runK c0 ((l.map gcb).take (i - 1))) (gcb l[i - 1])).odd, ?_⟩
  unfold rdOf cuts
  rw [Int.toNat_natCast, List.getD_eq_getElem?_getD, h1]
  simp only [Option.getD_some, endsK, sane_next _ _ g0 g1, List.getElem_map]
  rfl
theorem cut_0 (l : List Int) (h : 0 < l.length) : rdOf false (cuts c0 l) 0 = false := by
  cases l with
  | nil => simp at h
  | cons x l => simp [rdOf, cuts, cutsK, endsK, c0]
theorem mark_kind (r : Int) (h : isMk r = true) : gcb r = 4 := by
  obtain ⟨_, _, _, _, _, h1⟩ := bounds_at r
  unfold isMk at h
  simp at h
  omega

theorem ext_loop (l : List Int) (hl : l.length ≤ 200) : ∀ (d i k : Nat), l.length = i + d → 4 * d + 2 ≤ k → pentroughlaw11_ClusExtends.l0 k l true (cuts c0 l) (i : Int) = some true := by
  intro d
  induction d with
  | zero =>
    intro i k hi hk
    obtain ⟨k, rfl⟩ : ∃ m, k = m + 1 := ⟨k - 1, by omega⟩
    simp only [pentroughlaw11_ClusExtends.l0]
    rw [if_neg (by omega)]
  | succ d ih =>
    intro i k hi hk
    obtain ⟨k, rfl⟩ : ∃ m, k = m + 4 := ⟨k - 4, by omega⟩
    have hlt : i < l.length := by omega
    have hrd : rd l (i : Int) = l[i] := by simp [rd, hlt]
    have hw : wrap64 ((i : Int) + 1) = ((i + 1 : Nat) : Int) := by unfold wrap64; omega
    have hlen : (cuts c0 l).length = l.length := cuts_length _ _
    simp only [pentroughlaw11_ClusExtends.l0]
    rw [if_pos (by omega), if_pos (by omega), hrd, Gcb_is _ _ (by omega)]
    simp only [Option.bind_some]
    by_cases h0 : i = 0
    · subst h0
      rw [if_pos (by simp), if_pos (by omega), cut_0 l hlt, hw]
      simp only [Bool.false_eq_true, if_false]
      exact ih 1 (k + 3) (by omega) (by omega)
    · have hw1 : wrap64 ((i : Int) - 1) = ((i - 1 : Nat) : Int) := by unfold wrap64; omega
      have hrd1 : rd l ((i - 1 : Nat) : Int) = l[i - 1] := by simp [rd, show i - 1 < l.length by omega]
      rw [if_neg (by omega), hw1, if_pos (by omega), if_pos (by omega), hrd1, Gcb_is _ _ (by omega)]
      simp only [Option.bind_some]
      obtain ⟨p, o, hc⟩ := cut_at l i (by omega) hlt
      have hm := mark_kind l[i]
      have hih := ih (i + 1) k (by omega) (by omega)
      obtain ⟨g0, g1⟩ := gcb_range l[i]
      obtain ⟨j0, j1⟩ := gcb_range l[i - 1]
      generalize gcb l[i - 1] = j at *
      generalize gcb l[i] = g at *
      have e1 : (if j ≥ 1 then pentroughlaw11_ClusExtends.j1 (k + 3) l true (cuts c0 l) i g j (decide (j ≤ 3)) else pentroughlaw11_ClusExtends.j1 (k + 3) l true (cuts c0 l) i g j false) = pentroughlaw11_ClusExtends.j1 (k + 3) l true (cuts c0 l) i g j (ctrl j) := by
        unfold ctrl
        by_cases h : 1 ≤ j <;> simp [h]
      have e2 : pentroughlaw11_ClusExtends.j1 (k + 3) l true (cuts c0 l) i g j (ctrl j) = pentroughlaw11_ClusExtends.j2 (k + 2) l true (cuts c0 l) i g j (ctrl j) (ctrl g) := by
        simp only [pentroughlaw11_ClusExtends.j1]
        unfold ctrl
        by_cases h : 1 ≤ g <;> simp [h]
      have e3 : pentroughlaw11_ClusExtends.j2 (k + 2) l true (cuts c0 l) i g j (ctrl j) (ctrl g) = pentroughlaw11_ClusExtends.j3 (k + 1) l true (cuts c0 l) i g (ctrl j) (ctrl g) (j == 1 && g == 2) := by
        simp only [pentroughlaw11_ClusExtends.j2]
        by_cases h : j = 1
        · rw [if_pos h, beq_iff_eq.mpr h, Bool.true_and]
        · rw [if_neg h, beq_eq_false_iff_ne.mpr h, Bool.false_and]
      rw [e1, e2, e3]
      simp only [pentroughlaw11_ClusExtends.j3, hrd, hw, hih, hc, Mark_is, Option.bind_some]
      rw [hlen]
      have p1 : (0 : Int) ≤ (i : Int) := by omega
      have p2 : (i : Int) < (l.length : Int) := by omega
      simp only [if_pos p1, if_pos p2]
      unfold endsC
      cases hcl : (j == 1 && g == 2) with
      | true =>
        have : ctrl j = true := by simp at hcl; simp [ctrl, hcl.1]
        simp [this]
      | false =>
        cases hj : ctrl j with
        | true => simp
        | false =>
          cases hg : ctrl g with
          | true =>
            have h4 : ¬ g = 4 := by intro e; simp [ctrl, e] at hg
            have h5 : ¬ g = 5 := by intro e; simp [ctrl, e] at hg
            have h8 : ¬ g = 8 := by intro e; simp [ctrl, e] at hg
            have hmk : isMk l[i] = false := by
              cases h : isMk l[i] with
              | false => rfl
              | true => exact absurd (hm h) h4
            simp [h4, h5, h8, hmk]
          | false =>
            by_cases h4 : g = 4
            · simp [h4]
            by_cases h5 : g = 5
            · simp [h5]
            by_cases h8 : g = 8
            · simp [h8]
            have hmk : isMk l[i] = false := by
              cases h : isMk l[i] with
              | false => rfl
              | true => exact absurd (hm h) h4
            simp [h4, h5, h8, hmk]

theorem ClusExtends : pentroughlaw11_ClusExtends.Pure := by
  intro l _ _ _
  refine ⟨1000, ?_⟩
  unfold pentroughlaw11_ClusExtends.f
  rw [awake11e]
  simp only [Option.bind_some]
  by_cases h : (l.length : Int) > 200
  · rw [if_pos h]
  rw [if_neg h, Cuts_is 1000 l (by omega) (by omega)]
  simp only [Option.bind_some, cuts_length, if_true]
  exact ext_loop l (by omega) l.length 0 1000 (by omega) (by omega)

end Go.Proofs.Ytdpgdnifabfhgaa.Pure
