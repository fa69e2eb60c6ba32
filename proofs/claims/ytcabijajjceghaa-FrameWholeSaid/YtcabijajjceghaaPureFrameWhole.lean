/- What is whole is taken, and stays so whatever comes behind it. No condition. -/
import Derived.Test.YtcabijajjceghaaG25
import Derived.Test.YtcabijajjceghaaG11
import Derived.Test.YtcabijajjceghaaWholeP
namespace Go.Proofs.Ytcabijajjceghaa.Pure
open Go.RowKit Go.Proofs.Ytcabijajjceghaa.G Go.Proofs.YtcabijajjceghaaW.PrintWords Go.Proofs.YtcabijajjceghaaW.PrintLast

theorem awake13x : pentroughlaw13_awake.f 2000 = some true := by decide +kernel
theorem texts_loop (T : List ByteArray) (hl : T.length ≤ 1000) : ∀ (d i k : Nat), T.length = i + d → d < k → pentroughref13_Texts.l0 k T T (i : Int) = some true := by
  intro d
  induction d with
  | zero =>
    intro i k hi hk
    obtain ⟨k, rfl⟩ : ∃ m, k = m + 1 := ⟨k - 1, by omega⟩
    rw [pentroughref13_Texts.l0, if_neg (show ¬ ((i : Int) < (T.length : Int)) by omega)]
  | succ d ih =>
    intro i k hi hk
    obtain ⟨k, rfl⟩ : ∃ m, k = m + 1 := ⟨k - 1, by omega⟩
    have f1 : (i : Int) < (T.length : Int) := by omega
    have f0 : (0 : Int) ≤ (i : Int) := Int.natCast_nonneg _
    have hn := ih (i + 1) k (by omega) (by omega)
    have hw : wrap64 ((i : Int) + 1) = ((i + 1 : Nat) : Int) := by unfold wrap64; omega
    rw [pentroughref13_Texts.l0, if_pos f1, if_pos f0, if_pos f1, if_pos rfl, hw]
    exact hn
theorem texts_same (T : List ByteArray) (hl : T.length ≤ 1000) (k : Nat) (hk : T.length < k) : pentroughref13_Texts.f k T T = some true := by
  unfold pentroughref13_Texts.f
  rw [if_pos rfl]
  exact texts_loop T hl T.length 0 k (by omega) hk
theorem whole_j1 (b more : List Int) (T T' : List ByteArray) (n N : Nat) (e' : Int) (hb : b.length ≤ 200) (hm : more.length ≤ 200) (hn : n ≤ b.length) (hT : T.length ≤ n) (hN : n ≤ N)
    (h1 : frame_All.f 1998 (b.take n) = some (T, (n : Int), 0)) (h2 : frame_All.f 1998 (b ++ more) = some (T ++ T', (N : Int), e')) : pentroughlaw13_FrameWhole.j1 1999 b more true T (n : Int) false = some true := by
  have g1 : ([] : List Int).length + b.length < 140737488355328 := Nat.lt_of_le_of_lt (show ([] : List Int).length + b.length ≤ 200 by rw [List.length_nil]; omega) (by decide)
  have g2 : b.length + more.length < 140737488355328 := Nat.lt_of_le_of_lt (show b.length + more.length ≤ 400 by omega) (by decide)
  have f0 : (0 : Int) ≤ (n : Int) := Int.natCast_nonneg _
  have f1 : (n : Int) ≤ (b.length : Int) := by omega
  have f2 : (N : Int) ≥ (n : Int) := by omega
  have f3 : ((T ++ T').length : Int) ≥ (T.length : Int) := by rw [List.length_append]; omega
  have f4 : (0 : Int) ≤ (T.length : Int) := Int.natCast_nonneg _
  have ht := texts_same T (by omega) 1998 (by omega)
  have H : (if (0 : Int) = 0 then (if (n : Int) = (n : Int) then ((pentroughref13_Texts.f 1998 T T).bind fun t326 => (if t326 = true then (if (N : Int) ≥ (n : Int) then (if ((T ++ T').length : Int) ≥ (T.length : Int) then (if 0 ≤ (T.length : Int) then (if (T.length : Int) ≤ ((T ++ T').length : Int) then ((pentroughref13_Texts.f 1998 ((T ++ T').take ((T.length : Int) : Int).toNat) T).bind fun t331 => (some t331)) else (none)) else (none)) else (some false)) else (some false)) else (some false))) else (some false)) else (some false)) = some true := by
    rw [if_pos rfl, if_pos rfl, ht, Option.bind_some, if_pos rfl, if_pos f2, if_pos f3, if_pos f4, if_pos f3, Int.toNat_natCast, List.take_left, ht]
    rfl
  rw [pentroughlaw13_FrameWhole.j1, if_neg (show ¬ (false = true) by simp), if_pos f0, if_pos f1, Int.toNat_natCast, h1, Option.bind_some, Option.bind_some, if_pos g1, Option.bind_some, List.nil_append, if_pos g2, h2, Option.bind_some, if_pos rfl]
  exact H
theorem whole_core (b more : List Int) (hb : b.length ≤ 200) (hm : more.length ≤ 200) (wb : ∀ c ∈ b, 0 ≤ c ∧ c < 256) (wm : ∀ c ∈ more, 0 ≤ c ∧ c < 256) : pentroughlaw13_FrameWhole.j0 2000 b more true false = some true := by
  obtain ⟨T, n, e, q1, q2, q3, q4, q5⟩ := all_pre b.length b (Nat.le_refl _) wb (by omega)
  have hdl : (b.drop n).length = b.length - n := List.length_drop
  have hcl : (b.drop n ++ more).length = b.length - n + more.length := by rw [List.length_append, hdl]
  obtain ⟨T', n', e', p1, p2, p3, p4, p5⟩ := all_pre (b.drop n ++ more).length (b.drop n ++ more) (Nat.le_refl _) (fun c hc => by
    rcases List.mem_append.1 hc with h | h
    · exact wb c (List.mem_of_mem_drop h)
    · exact wm c h) (by omega)
  have hbt : (b.take n).length = n := by rw [List.length_take]; omega
  have A0 : frame_All.f 1999 b = some (T, (n : Int), e) := by
    unfold frame_All.f
    rw [q4 b [] 1999 (by omega) (Nat.le_refl _) (by rw [List.length_nil]; omega) (by omega), List.nil_append, show b.length - (b.length - n) = n by omega]
  have A1 : frame_All.f 1998 (b.take n) = some (T, (n : Int), 0) := by
    unfold frame_All.f
    have h := q5 [] (b.take n) [] 1998 (by rw [List.append_nil]; omega) (by rw [List.length_nil]; omega) (by omega)
    rw [List.append_nil] at h
    rw [h]
    obtain ⟨k, hk⟩ : ∃ k, 1998 - T.length = k + 1 := ⟨1997 - T.length, by omega⟩
    rw [hk, frame_All.l0, if_neg (by simp), hbt]
    rfl
  have A2 : frame_All.f 1998 (b ++ more) = some (T ++ T', (((b ++ more).length - ((b.drop n ++ more).length - n') : Nat) : Int), e') := by
    unfold frame_All.f
    have e0 : b ++ more = b.take n ++ (b.drop n ++ more) := by rw [← List.append_assoc, List.take_append_drop]
    have hXl : (b ++ more).length = b.length + more.length := List.length_append
    have h := q5 (b.drop n ++ more) (b ++ more) [] 1998 (by rw [← e0]; omega) (by rw [List.length_nil]; omega) (by omega)
    rw [← e0] at h
    rw [h, List.nil_append]
    exact p4 (b ++ more) T (1998 - T.length) (by omega) (by omega) (by omega) (by omega)
  have hx : ((e == 0) != ((n : Int) == (b.length : Int))) = false := by
    by_cases h : e = 0
    · have := q3.1 h
      simp [h, this]
    · have h2 : ¬ ((n : Int) = (b.length : Int)) := fun h3 => h (q3.2 (by omega))
      rw [beq_eq_false_iff_ne.2 h, beq_eq_false_iff_ne.2 h2]
      rfl
  have hj := whole_j1 b more T T' n _ e' hb hm q1 q2 (show n ≤ (b ++ more).length - ((b.drop n ++ more).length - n') by rw [List.length_append]; omega) A1 A2
  have f1 : ¬ ((n : Int) < 0) := by omega
  have f2 : ¬ ((n : Int) > (b.length : Int)) := by omega
  have H : (if (n : Int) < 0 then (pentroughlaw13_FrameWhole.j1 1999 b more true T (n : Int) true) else (if (n : Int) > (b.length : Int) then (pentroughlaw13_FrameWhole.j1 1999 b more true T (n : Int) true) else (pentroughlaw13_FrameWhole.j1 1999 b more true T (n : Int) ((e == 0) != ((n : Int) == (b.length : Int)))))) = some true := by
    rw [if_neg f1, if_neg f2, hx]
    exact hj
  rw [pentroughlaw13_FrameWhole.j0, if_neg (show ¬ (false = true) by simp), A0, Option.bind_some]
  exact H

theorem FrameWhole : pentroughlaw13_FrameWhole.Pure := by
  intro b more q1 q2 q3 q4 q5 q6
  refine ⟨2000, ?_⟩
  have k0 : IntKind.u8.min = 0 := by kernel_rfl
  have k1 : IntKind.u8.max = 255 := by kernel_rfl
  have wb : ∀ c ∈ b, 0 ≤ c ∧ c < 256 := fun c hc => by have := q3 c hc; simp [Lit.wf] at this; omega
  have wm : ∀ c ∈ more, 0 ≤ c ∧ c < 256 := fun c hc => by have := q6 c hc; simp [Lit.wf] at this; omega
  clear q1 q2 q3 q4 q5 q6
  unfold pentroughlaw13_FrameWhole.f
  rw [awake13x, Option.bind_some]
  by_cases h1 : (b.length : Int) > 200
  · rw [if_pos h1, pentroughlaw13_FrameWhole.j0, if_pos rfl]
  rw [if_neg h1]
  by_cases h2 : (more.length : Int) > 200
  · rw [decide_eq_true h2, pentroughlaw13_FrameWhole.j0, if_pos rfl]
  rw [decide_eq_false h2]
  exact whole_core b more (by omega) (by omega) wb wm
end Go.Proofs.Ytcabijajjceghaa.Pure
