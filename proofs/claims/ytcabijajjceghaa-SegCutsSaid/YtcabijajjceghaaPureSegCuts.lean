/- Clusters end where they end, or are full. No condition. -/
import Derived.Test.YtcabijajjceghaaG36
import Derived.Test.YtcabijajjceghaaSegP
namespace Go.Proofs.Ytcabijajjceghaa.Pure
open Go.RowKit Go.Proofs.Ytcabijajjceghaa.G Go.Proofs.YtcabijajjceghaaW.PrintWords Go.Proofs.YtcabijajjceghaaW.PrintLast

theorem awake12c : pentroughlaw12_awake.f 1000 = some true := by decide +kernel
theorem cuts_inner (x0 : List Int) (L : List (List Int)) (F : List Bool) (at' i : Nat) (hi : i < L.length) (h0 : x0.length ≤ 200) (hF : F.length = x0.length) (hL : L.length ≤ 200) : ∀ (e j k : Nat), 1 ≤ j → L[i].length = j + e →
    (∀ q, j ≤ q → q < L[i].length → F[at' + q]? = some false) → at' + L[i].length ≤ x0.length →
    pentroughlaw12_SegCuts.l1 (k + e + 1) x0 true L F (at' : Int) (i : Int) (j : Int) = pentroughlaw12_SegCuts.l0 k x0 true L F ((at' + L[i].length : Nat) : Int) ((i + 1 : Nat) : Int) := by
  intro e
  have hrd : rd_L2 L (i : Int) = L[i] := by simp [rd_L2, hi]
  have hw : wrap64 ((i : Int) + 1) = ((i + 1 : Nat) : Int) := by unfold wrap64; omega
  induction e with
  | zero =>
    intro j k hj he hq ha
    have hw2 : wrap64 ((at' : Int) + (L[i].length : Int)) = ((at' + L[i].length : Nat) : Int) := by unfold wrap64; omega
    rw [Nat.add_zero, pentroughlaw12_SegCuts.l1]
    rw [hrd, hw, hw2, if_pos (by omega), if_pos (by omega), if_neg (by omega)]
  | succ e ih =>
    intro j k hj he hq ha
    have hw2 : wrap64 ((at' : Int) + (j : Int)) = ((at' + j : Nat) : Int) := by unfold wrap64; omega
    have hw3 : wrap64 ((j : Int) + 1) = ((j + 1 : Nat) : Int) := by unfold wrap64; omega
    have hr : rdOf false F ((at' + j : Nat) : Int) = false := by
      unfold rdOf
      rw [Int.toNat_natCast, List.getD_eq_getElem?_getD, hq j (by omega) (by omega)]
      rfl
    obtain ⟨p, hp⟩ : ∃ p : Int, ((at' + j : Nat) : Int) = p := ⟨_, rfl⟩
    have hp' : p = (at' : Int) + (j : Int) := by omega
    rw [hp] at hw2 hr
    rw [show k + (e + 1) + 1 = (k + e + 1) + 1 by omega]
    rw [pentroughlaw12_SegCuts.l1]
    rw [hrd, hw2, hw3, hr, if_pos (show (0 : Int) ≤ (i : Int) by omega), if_pos (show (i : Int) < (L.length : Int) by omega), if_pos (show (j : Int) < (L[i].length : Int) by omega), if_neg (show ¬ p ≥ (x0.length : Int) by omega), if_pos (show 0 ≤ p by omega), if_pos (show p < (F.length : Int) by omega), if_neg (show ¬ (false = true) by simp)]
    exact ih (j + 1) k (by omega) (by omega) (fun q h1 h2 => hq q (by omega) h2) ha

theorem cuts_outer (x0 : List Int) (L : List (List Int)) (F : List Bool) (h0 : x0.length ≤ 200) (hF : F.length = x0.length) (hL : L.length ≤ 200) : ∀ (d i k at' : Nat), L.length = i + d →
    ((d = 0 ∧ at' = x0.length) ∨ ∃ r t s', x0.drop at' = r :: t ∧ F.drop (at' + 1) = cuts s' t ∧ saneG [r] s' = true ∧ L.drop i = allP [r] s' t ∧ (0 < i → F[at']? = some true ∨ ∃ y, L[i - 1]? = some y ∧ y.length = 32)) →
    at' ≤ x0.length → (x0.length - at') + 2 * d + 1 ≤ k →
    pentroughlaw12_SegCuts.l0 k x0 true L F (at' : Int) (i : Int) = some true := by
  intro d
  induction d with
  | zero =>
    intro i k at' hi hs ha hk
    obtain ⟨k, rfl⟩ : ∃ m, k = m + 1 := ⟨k - 1, by omega⟩
    have e : at' = x0.length := by
      rcases hs with ⟨_, h⟩ | ⟨r, t, s', _, _, h1, h2, _⟩
      · exact h
      · have hh := head_allP t [r] s' h1 (by simp)
        obtain ⟨m, _, _, _, h5⟩ := hh
        rw [List.drop_of_length_le (by omega)] at h2
        rcases h5 with ⟨_, h6⟩ | ⟨_, _, _, _, _, _, _, h6⟩ <;> rw [h6] at h2 <;> cases h2
    rw [pentroughlaw12_SegCuts.l0, if_neg (by omega), e]
    simp
  | succ d ih =>
    intro i k at' hi hs ha hk
    rcases hs with ⟨h, _⟩ | ⟨r, t, s', hx, hfl, hsn, hLd, hpre⟩
    · omega
    obtain ⟨m, hm1, hm2, hm3, hm4⟩ := head_allP t [r] s' hsn (by simp)
    have hlt : i < L.length := by omega
    have hxl : x0.length - at' = t.length + 1 := by have := congrArg List.length hx; simpa using this
    have hLi : L[i] = r :: t.take m ∧ L.drop (i + 1) = (allP [r] s' t).tail := by
      have e1 := List.drop_eq_getElem_cons hlt
      rw [hLd] at e1
      rw [e1]
      refine ⟨?_, rfl⟩
      rcases hm4 with ⟨h5, h6⟩ | ⟨_, _, _, _, _, _, _, h6⟩
      · rw [h6] at e1
        have := (List.cons.inj e1).1
        rw [← this, h5]; simp
      · rw [h6] at e1
        have := (List.cons.inj e1).1
        rw [← this]; simp
    have hlen : L[i].length = m + 1 := by rw [hLi.1]; simp; omega
    obtain ⟨k, rfl⟩ : ∃ k0, k = ((k0 + m + 1) + 1) + 1 := ⟨k - m - 3, by omega⟩
    have hF2 : ∀ q, F[at' + (q + 1)]? = (cuts s' t)[q]? := fun q => by rw [← hfl, List.getElem?_drop]; congr 1; omega
    have hin := cuts_inner x0 L F at' i hlt h0 hF hL m 1 k (by omega) (by omega) (fun q h1 h2 => by
      obtain ⟨q, rfl⟩ : ∃ p, q = p + 1 := ⟨q - 1, by omega⟩
      rw [hF2 q]
      exact hm3 q (by omega)) (by omega)
    have hend : pentroughlaw12_SegCuts.l0 k x0 true L F ((at' + L[i].length : Nat) : Int) ((i + 1 : Nat) : Int) = some true := by
      refine ih (i + 1) k (at' + L[i].length) (by omega) ?_ (by omega) (by omega)
      have hxd : x0.drop (at' + L[i].length) = t.drop m := by
        rw [hlen, ← List.drop_drop, hx]; simp
      rcases hm4 with ⟨h5, h6⟩ | ⟨y, t2, s2, h5, h6, h7, h8, h9⟩
      · left
        have : L.drop (i + 1) = [] := by rw [hLi.2, h6]; rfl
        have := List.drop_eq_nil_iff.1 this
        exact ⟨by omega, by omega⟩
      · right
        refine ⟨y, t2, s2, by rw [hxd, h5], ?_, h8, by rw [hLi.2, h9]; rfl, fun _ => ?_⟩
        · rw [← h7, ← hfl, List.drop_drop]; congr 1; omega
        · rcases h6 with h6 | h6
          · left
            rw [hlen, hF2 m]; exact h6
          · right
            exact ⟨L[i], by simp [hlt], by rw [hlen]; simpa [Nat.add_comm] using h6⟩
    have hj : pentroughlaw12_SegCuts.j1 ((k + m + 1) + 1) x0 true L F (at' : Int) (i : Int) false = some true := by
      rw [pentroughlaw12_SegCuts.j1, if_neg (by simp)]
      exact hin.trans hend
    rw [pentroughlaw12_SegCuts.l0]
    rw [if_pos (by omega), if_neg (by omega)]
    by_cases hz : 0 < i
    · rw [if_pos (by omega), if_pos (by omega), if_pos (by omega)]
      by_cases hc : rdOf false F (at' : Int) = true
      · rw [if_pos hc]; exact hj
      · rw [if_neg hc]
        have hw : wrap64 ((i : Int) - 1) = ((i - 1 : Nat) : Int) := by unfold wrap64; omega
        rw [hw, if_pos (by omega), if_pos (by omega)]
        rcases hpre hz with h | ⟨y, h1, h2⟩
        · exfalso; apply hc
          unfold rdOf
          rw [Int.toNat_natCast, List.getD_eq_getElem?_getD, h]; rfl
        · have : rd_L2 L ((i - 1 : Nat) : Int) = y := by unfold rd_L2; rw [Int.toNat_natCast, List.getD_eq_getElem?_getD, h1]; rfl
          rw [this, h2]
          exact hj
    · rw [if_neg (by omega)]; exact hj

theorem SegCuts : pentroughlaw12_SegCuts.Pure := by
  intro l q1 q2 q3
  refine ⟨1000, ?_⟩
  unfold pentroughlaw12_SegCuts.f
  rw [awake12c]
  simp only [Option.bind_some]
  by_cases h : (l.length : Int) > 200
  · rw [if_pos h]
  rw [if_neg h]
  have ha : seg_All.f l = some (allP [] c0 l) := by unfold seg_All.f; rw [if_pos (by omega)]
  have hc := Cuts_is 1000 l (by omega) (by omega)
  have hn := count_allP l
  have hl : (cuts c0 l).length = l.length := cuts_length _ _
  rw [ha, Option.bind_some, hc, Option.bind_some, if_pos (by omega)]
  refine cuts_outer l (allP [] c0 l) (cuts c0 l) (by omega) hl (by omega) (allP [] c0 l).length 0 1000 0 (by omega) ?_ (by omega) (by omega)
  cases l with
  | nil => left; simp [allP]
  | cons r t =>
    right
    refine ⟨r, t, nextS c0 r, rfl, rfl, saneG_one _ _, ?_, fun h => by omega⟩
    rw [List.drop_zero, allP_cons [] c0 r t saneG_c0]
    simp [fullP]
end Go.Proofs.Ytcabijajjceghaa.Pure
