/- What seg.All comes to, plainly: the clusters are the values one behind another, each of 1 to 32 values, and more. No condition. -/
import Derived.Test.YtcabijajjceghaaSeg
import Derived.Test.YtcabijajjceghaaHAll
import Derived.Test.YtcabijajjceghaaG13
namespace Go.Proofs.Ytcabijajjceghaa.G
open Go.RowKit Go.Proofs.YtcabijajjceghaaW.PrintWords Go.Proofs.YtcabijajjceghaaW.PrintLast Go.Proofs.YtcabijajjceghaaW.PrintMore
set_option linter.unusedVariables false
set_option linter.unusedSimpArgs false

theorem sane_nextK_fin : ∀ g : Fin 15, ∀ p o : Bool, ∀ q : Bool, saneC ⟨true, (g.val : Int), if (g.val : Int) = 14 then true else if (g.val : Int) = 4 ∨ (g.val : Int) = 5 then p && q else false, if (g.val : Int) = 6 then o else false⟩ = true := by decide +kernel
theorem sane_nextK (s : CS) (g : Int) (h0 : 0 ≤ g) (h1 : g ≤ 14) : saneC (nextK s g) = true := by
  have := sane_nextK_fin ⟨g.toNat, by omega⟩ (if saneC s then s else c0).pict (!(if saneC s then s else c0).odd) ((if saneC s then s else c0).kind != 5)
  simp only [Int.toNat_of_nonneg h0] at this
  exact this
theorem sane_nextS (s : CS) (r : Int) : saneC (nextS s r) = true := sane_nextK s _ (gcb_range r).1 (gcb_range r).2
theorem next_on (s : CS) (r : Int) : (nextS s r).on = true := rfl
theorem saneG_c0 : saneG [] c0 = true := by decide
theorem saneG_one (s : CS) (r : Int) : saneG [r] (nextS s r) = true := by simp [saneG, sane_nextS, next_on]
theorem saneG_more (C : List Int) (s : CS) (r : Int) (h : saneG C s = true) (hf : fullP C.length s r = false) : saneG (C ++ [r]) (nextS s r) = true := by
  have h1 : C.length ≤ 32 := by
    simp only [saneG, Bool.and_eq_true, decide_eq_true_eq] at h
    exact h.1
  have h2 : (C ++ [r]).length ≤ 32 := by
    rw [List.length_append]
    simp only [fullP, Bool.and_eq_false_iff, Bool.or_eq_false_iff, decide_eq_false_iff_not] at hf
    simp only [List.length_cons, List.length_nil]
    omega
  unfold saneG
  rw [decide_eq_true h2, sane_nextS, next_on]
  simp
/-- One step, of a state that is sane. -/
theorem allP_cons (C : List Int) (s : CS) (r : Int) (t : List Int) (h : saneG C s = true) : allP C s (r :: t) = if fullP C.length s r = true then C :: allP [r] (nextS s r) t else allP (C ++ [r]) (nextS s r) t := by
  rw [allP]
  unfold feedP
  rw [if_pos h]
  by_cases hf : fullP C.length s r = true
  · have hne : C ≠ [] := by intro e; subst e; simp [fullP] at hf
    simp [hf, hne]
  · simp [hf]
theorem join_allP (l : List Int) : ∀ C s, saneG C s = true → (allP C s l).flatten = C ++ l := by
  induction l with
  | nil => intro C s _; unfold allP; by_cases h : C = [] <;> simp [h]
  | cons r t ih =>
    intro C s h
    rw [allP_cons C s r t h]
    by_cases hf : fullP C.length s r = true
    · rw [if_pos hf, List.flatten_cons, ih _ _ (saneG_one s r)]; simp
    · rw [if_neg hf, ih _ _ (saneG_more C s r h (by simpa using hf))]; simp
theorem len_allP (l : List Int) : ∀ C s, saneG C s = true → ∀ x ∈ allP C s l, 1 ≤ x.length ∧ x.length ≤ 32 := by
  have hC : ∀ (C : List Int) (s : CS), saneG C s = true → C ≠ [] → 1 ≤ C.length ∧ C.length ≤ 32 := by
    intro C s h hne
    simp only [saneG, Bool.and_eq_true, decide_eq_true_eq] at h
    exact ⟨List.length_pos_iff.2 hne, h.1⟩
  induction l with
  | nil =>
    intro C s h x hx
    unfold allP at hx
    by_cases hc : C = []
    · simp [hc] at hx
    · simp [hc] at hx; subst hx; exact hC _ _ h hc
  | cons r t ih =>
    intro C s h x hx
    rw [allP_cons C s r t h] at hx
    by_cases hf : fullP C.length s r = true
    · rw [if_pos hf] at hx
      have hne : C ≠ [] := by intro e; subst e; simp [fullP] at hf
      rcases List.mem_cons.1 hx with rfl | hx
      · exact hC _ _ h hne
      · exact ih _ _ (saneG_one s r) x hx
    · rw [if_neg hf] at hx
      exact ih _ _ (saneG_more C s r h (by simpa using hf)) x hx
theorem count_le (L : List (List Int)) (h : ∀ x ∈ L, 1 ≤ x.length) : L.length ≤ L.flatten.length := by
  induction L with
  | nil => simp
  | cons a L ih =>
    have h1 := h a (by simp)
    have h2 := ih (fun x hx => h x (by simp [hx]))
    rw [List.flatten_cons, List.length_append, List.length_cons]
    omega
theorem count_allP (l : List Int) : (allP [] c0 l).length ≤ l.length := by
  have := count_le _ (fun x hx => (len_allP l [] c0 saneG_c0 x hx).1)
  rwa [join_allP l [] c0 saneG_c0, List.nil_append] at this
/-- The first cluster, and what is behind it. -/
theorem head_allP (l : List Int) : ∀ C s, saneG C s = true → C ≠ [] → ∃ m, m ≤ l.length ∧ C.length + m ≤ 32 ∧ (∀ j, j < m → (cuts s l)[j]? = some false) ∧
    ((m = l.length ∧ allP C s l = [C ++ l]) ∨ ∃ x t s', l.drop m = x :: t ∧ ((cuts s l)[m]? = some true ∨ C.length + m = 32) ∧ (cuts s l).drop (m + 1) = cuts s' t ∧ saneG [x] s' = true ∧ allP C s l = (C ++ l.take m) :: allP [x] s' t) := by
  induction l with
  | nil =>
    intro C s h hne
    simp only [saneG, Bool.and_eq_true, decide_eq_true_eq] at h
    exact ⟨0, by simp, by omega, fun j hj => by omega, .inl ⟨rfl, by unfold allP; simp [hne]⟩⟩
  | cons r t ih =>
    intro C s h hne
    have hcons : cuts s (r :: t) = endsS s r :: cuts (nextS s r) t := rfl
    rw [allP_cons C s r t h, hcons]
    have hl : C.length ≤ 32 := by
      simp only [saneG, Bool.and_eq_true, decide_eq_true_eq] at h
      exact h.1
    have hp : 0 < C.length := List.length_pos_iff.2 hne
    by_cases hf : fullP C.length s r = true
    · rw [if_pos hf]
      refine ⟨0, by simp, by omega, fun j hj => by omega, .inr ⟨r, t, nextS s r, rfl, ?_, by simp, saneG_one s r, by simp⟩⟩
      simp only [fullP, Bool.and_eq_true, Bool.or_eq_true, decide_eq_true_eq] at hf
      rcases hf.2 with h1 | h1
      · exact .inr (by omega)
      · exact .inl (by simp [h1])
    · rw [if_neg hf]
      have hf' : fullP C.length s r = false := by simpa using hf
      obtain ⟨m, h1, h2, h3, h4⟩ := ih (C ++ [r]) (nextS s r) (saneG_more C s r h hf') (by simp)
      have hnc : endsS s r = false := by
        simp only [fullP, Bool.and_eq_false_iff, Bool.or_eq_false_iff, decide_eq_false_iff_not] at hf'
        rcases hf' with h5 | h5
        · omega
        · exact h5.2
      refine ⟨m + 1, by simpa using h1, by simp at h2; omega, fun j hj => ?_, ?_⟩
      · cases j with
        | zero => simp [hnc]
        | succ j => simpa using h3 j (by omega)
      · rcases h4 with ⟨h5, h6⟩ | ⟨x, t', s', h5, h6, h7, h8, h9⟩
        · exact .inl ⟨by simp [h5], by rw [h6]; simp⟩
        · refine .inr ⟨x, t', s', by simpa using h5, ?_, by simpa using h7, h8, by rw [h9]; simp⟩
          rcases h6 with h6 | h6
          · exact .inl (by simpa using h6)
          · exact .inr (by simp at h6; omega)

theorem same01_loop (a : List Int) (hl : a.length < 140737488355328) : ∀ (d i k : Nat), a.length = i + d → d < k → pentroughref01_Same.l0 k a a (i : Int) = some true := by
  intro d
  induction d with
  | zero =>
    intro i k hi hk
    obtain ⟨k, rfl⟩ : ∃ m, k = m + 1 := ⟨k - 1, by omega⟩
    simp only [pentroughref01_Same.l0]
    rw [if_neg (by omega)]
  | succ d ih =>
    intro i k hi hk
    obtain ⟨k, rfl⟩ : ∃ m, k = m + 1 := ⟨k - 1, by omega⟩
    have hw : wrap64 ((i : Int) + 1) = ((i + 1 : Nat) : Int) := by unfold wrap64; omega
    simp only [pentroughref01_Same.l0]
    rw [if_pos (by omega), if_pos (by omega), if_pos (by omega), hw]
    simp only [if_true]
    exact ih (i + 1) k (by omega) (by omega)
theorem same01 (a : List Int) (k : Nat) (hl : a.length < 140737488355328) (hk : a.length < k) : pentroughref01_Same.f k a a = some true := by
  unfold pentroughref01_Same.f
  rw [if_pos rfl]
  exact same01_loop a hl a.length 0 k (by omega) hk
end Go.Proofs.Ytcabijajjceghaa.G
