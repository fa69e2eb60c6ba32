/- What was told is told: the clusters of the first values are those of all the values, but the last, that may be longer. No condition. -/
import Derived.Test.YtcabijajjceghaaG37
import Derived.Test.YtcabijajjceghaaG22
import Derived.Test.YtcabijajjceghaaSegP
namespace Go.Proofs.Ytcabijajjceghaa.Pure
open Go.RowKit Go.Proofs.Ytcabijajjceghaa.G Go.Proofs.YtcabijajjceghaaW.PrintWords Go.Proofs.YtcabijajjceghaaW.PrintLast

theorem awake12p : pentroughlaw12_awake.f 1000 = some true := by decide +kernel
theorem prefix_allP (b : List Int) : ∀ (a C : List Int) (s : CS), saneG C s = true → (C = [] ∧ a = []) ∨ ∃ p q q' rest, allP C s a = p ++ [q] ∧ allP C s (a ++ b) = p ++ q' :: rest ∧ q.length ≤ q'.length := by
  intro a
  induction a with
  | nil =>
    intro C s h
    by_cases hne : C = []
    · exact .inl ⟨hne, rfl⟩
    · right
      obtain ⟨m, _, _, _, h4⟩ := head_allP b C s h hne
      have e : allP C s [] = [C] := by simp [allP, hne]
      rcases h4 with ⟨_, h5⟩ | ⟨x, t, s', _, _, _, _, h5⟩
      · exact ⟨[], C, C ++ b, [], e, by rw [List.nil_append, h5]; rfl, by simp⟩
      · exact ⟨[], C, C ++ b.take m, allP [x] s' t, e, by rw [List.nil_append, h5]; rfl, by simp⟩
  | cons r t ih =>
    intro C s h
    right
    rw [List.cons_append, allP_cons C s r t h, allP_cons C s r (t ++ b) h]
    by_cases hf : fullP C.length s r = true
    · rw [if_pos hf, if_pos hf]
      rcases ih [r] _ (saneG_one s r) with ⟨h1, _⟩ | ⟨p, q, q', rest, h1, h2, h3⟩
      · cases h1
      · exact ⟨C :: p, q, q', rest, by rw [h1]; rfl, by rw [h2]; rfl, h3⟩
    · rw [if_neg hf, if_neg hf]
      rcases ih (C ++ [r]) _ (saneG_more C s r h (by simpa using hf)) with ⟨h1, _⟩ | ⟨p, q, q', rest, h1, h2, h3⟩
      · simp at h1
      · exact ⟨p, q, q', rest, h1, h2, h3⟩

theorem same12_loop (a : List (List Int)) (hl : a.length ≤ 200) (hx : ∀ x ∈ a, x.length ≤ 32) : ∀ (d i k : Nat), a.length = i + d → d + 40 < k → pentroughref12_Same.l0 k a a (i : Int) = some true := by
  intro d
  induction d with
  | zero =>
    intro i k hi hk
    obtain ⟨k, rfl⟩ : ∃ m, k = m + 1 := ⟨k - 1, by omega⟩
    rw [pentroughref12_Same.l0, if_neg (show ¬ ((i : Int) < (a.length : Int)) by omega)]
  | succ d ih =>
    intro i k hi hk
    obtain ⟨k, rfl⟩ : ∃ m, k = m + 1 := ⟨k - 1, by omega⟩
    have hlt : i < a.length := by omega
    have hrd : rd_L2 a (i : Int) = a[i] := by simp [rd_L2, hlt]
    have hb := hx a[i] (List.getElem_mem hlt)
    have f1 : (i : Int) < (a.length : Int) := by omega
    have f0 : (0 : Int) ≤ (i : Int) := by omega
    have hn := ih (i + 1) k (by omega) (by omega)
    have hs := same01 a[i] k (Nat.lt_of_le_of_lt hb (by decide)) (by omega)
    have hw : wrap64 ((i : Int) + 1) = ((i + 1 : Nat) : Int) := by unfold wrap64; omega
    rw [pentroughref12_Same.l0, hrd, hs, Option.bind_some, if_pos f1, if_pos f0, if_pos f1, if_pos rfl, hw]
    exact hn
theorem same12 (a : List (List Int)) (k : Nat) (hl : a.length ≤ 200) (hx : ∀ x ∈ a, x.length ≤ 32) (hk : a.length + 40 < k) : pentroughref12_Same.f k a a = some true := by
  unfold pentroughref12_Same.f
  rw [if_pos rfl]
  exact same12_loop a hl hx a.length 0 k (by omega) hk
theorem wpre (d : Nat) (h : d ≤ 200) : wrap64 (((d + 1 : Nat) : Int) - 1) = (d : Int) := by unfold wrap64; omega

theorem parts_core (a b : List Int) (h1 : a.length ≤ 100) (h2 : b.length ≤ 100) : pentroughlaw12_SegParts.j0 1000 a b true false = some true := by
  have ha : seg_All.f a = some (allP [] c0 a) := by unfold seg_All.f; rw [if_pos (show a.length ≤ 100000 by omega)]
  have hab : seg_All.f (a ++ b) = some (allP [] c0 (a ++ b)) := by unfold seg_All.f; rw [if_pos (show (a ++ b).length ≤ 100000 by rw [List.length_append]; omega)]
  have g1 : ([] : List Int).length + a.length < 17592186044416 := Nat.lt_of_le_of_lt (show ([] : List Int).length + a.length ≤ 100 by simpa using h1) (by decide)
  have g2 : a.length + b.length < 17592186044416 := Nat.lt_of_le_of_lt (show a.length + b.length ≤ 200 by omega) (by decide)
  rw [pentroughlaw12_SegParts.j0, if_neg (by simp), ha, Option.bind_some, Option.bind_some, if_pos g1, Option.bind_some, List.nil_append, if_pos g2, Option.bind_some, hab, Option.bind_some]
  rcases prefix_allP b a [] c0 saneG_c0 with ⟨_, h⟩ | ⟨p, q, q', rest, e1, e2, hq⟩
  · subst h
    rw [if_pos (by simp [allP]), if_pos rfl]
    rfl
  have hn : p.length ≤ 99 := by
    have := count_allP a
    rw [e1, List.length_append, List.length_singleton] at this
    omega
  have hL1 : (allP [] c0 a).length = p.length + 1 := by rw [e1, List.length_append, List.length_singleton]
  have hL2 : p.length < (allP [] c0 (a ++ b)).length := by rw [e2, List.length_append, List.length_cons]; omega
  have hw : wrap64 (((allP [] c0 a).length : Int) - 1) = (p.length : Int) := by rw [hL1]; exact wpre _ (by omega)
  have t1 : (allP [] c0 a).take p.length = p := by rw [e1]; simp
  have t2 : (allP [] c0 (a ++ b)).take p.length = p := by rw [e2]; simp
  have r1 : rd_L2 (allP [] c0 a) (p.length : Int) = q := by rw [e1]; simp [rd_L2]
  have r2 : rd_L2 (allP [] c0 (a ++ b)) (p.length : Int) = q' := by rw [e2]; simp [rd_L2]
  have hs := same12 p 999 (by omega) (fun x hx => (len_allP a [] c0 saneG_c0 x (by rw [e1]; simp [hx])).2) (by omega)
  have hc1 := Cuts_is 999 (a ++ b) (Nat.lt_of_le_of_lt (show (a ++ b).length ≤ 200 by rw [List.length_append]; omega) (by decide)) (by rw [List.length_append]; omega)
  have hc2 := Cuts_is 999 a (Nat.lt_of_le_of_lt h1 (by decide)) (by omega)
  have hcl : (cuts c0 (a ++ b)).length = a.length + b.length := by rw [cuts_length, List.length_append]
  have hct : (cuts c0 (a ++ b)).take a.length = cuts c0 a := by
    unfold cuts
    rw [List.map_append, cutsK_append]
    exact List.take_left' (by rw [cutsK_length, List.length_map])
  have hS : pentroughref11_Same.f 999 (cuts c0 a) (cuts c0 a) = some true := by
    rw [SameB_is 999 _ _ (Nat.lt_of_le_of_lt (show (cuts c0 a).length ≤ 100 by rw [cuts_length]; omega) (by decide)) (by rw [cuts_length]; omega)]
    simp
  generalize allP [] c0 a = A at *
  generalize allP [] c0 (a ++ b) = B at *
  have f1 : ¬ ((A.length : Int) = 0) := by omega
  have f2 : (B.length : Int) > (p.length : Int) := by omega
  have f3 : (0 : Int) ≤ (p.length : Int) := by omega
  have f4 : (p.length : Int) ≤ (A.length : Int) := by omega
  have f5 : (p.length : Int) ≤ (B.length : Int) := by omega
  have f6 : (p.length : Int) < (B.length : Int) := by omega
  have f7 : (p.length : Int) < (A.length : Int) := by omega
  have f8 : (q'.length : Int) ≥ (q.length : Int) := by omega
  have f9 : (0 : Int) ≤ (a.length : Int) := by omega
  have f10 : (a.length : Int) ≤ ((cuts c0 (a ++ b)).length : Int) := by omega
  rw [if_neg f1, if_pos rfl, hw, if_pos f2, if_pos f3, if_pos f4, if_pos f5, Int.toNat_natCast, t1, t2, hs, Option.bind_some, if_pos rfl, if_pos f6, if_pos f7, r1, r2, if_pos f8, hc1, Option.bind_some, if_pos f9, if_pos f10, hc2, Option.bind_some, Int.toNat_natCast, hct, hS]
  rfl

theorem SegParts : pentroughlaw12_SegParts.Pure := by
  intro a b q1 q2 q3 q4 q5 q6
  clear q1 q2 q3 q4 q5 q6
  refine ⟨1000, ?_⟩
  unfold pentroughlaw12_SegParts.f
  rw [awake12p]
  simp only [Option.bind_some]
  by_cases h1 : (a.length : Int) > 100
  · rw [if_pos h1, pentroughlaw12_SegParts.j0, if_pos rfl]
  rw [if_neg h1]
  by_cases h2 : (b.length : Int) > 100
  · rw [decide_eq_true h2, pentroughlaw12_SegParts.j0, if_pos rfl]
  rw [decide_eq_false h2]
  exact parts_core a b (by omega) (by omega)
end Go.Proofs.Ytcabijajjceghaa.Pure
