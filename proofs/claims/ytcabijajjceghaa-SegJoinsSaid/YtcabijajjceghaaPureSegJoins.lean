/- The clusters are the values, one behind the other. No condition. -/
import Derived.Test.YtcabijajjceghaaG31
import Derived.Test.YtcabijajjceghaaSegP
namespace Go.Proofs.Ytcabijajjceghaa.Pure
open Go.RowKit Go.Proofs.Ytcabijajjceghaa.G Go.Proofs.YtcabijajjceghaaW.PrintWords Go.Proofs.YtcabijajjceghaaW.PrintLast

theorem awake12j : pentroughlaw12_awake.f 1000 = some true := by decide +kernel
theorem joins_loop (x0 : List Int) (L : List (List Int)) (hL : ∀ x ∈ L, 1 ≤ x.length ∧ x.length ≤ 32) (hj : L.flatten = x0) (hn : L.length ≤ 200) (h0 : x0.length ≤ 200) : ∀ (d i k : Nat), L.length = i + d → d + 300 < k →
    pentroughlaw12_SegJoins.l0 k x0 true L (L.take i).flatten (i : Int) = some true := by
  intro d
  induction d with
  | zero =>
    intro i k hi hk
    obtain ⟨k, rfl⟩ : ∃ m, k = m + 1 := ⟨k - 1, by omega⟩
    simp only [pentroughlaw12_SegJoins.l0]
    rw [if_neg (by omega), if_pos trivial, List.take_of_length_le (by omega), hj, same01 x0 k (by omega) (by omega)]
    rfl
  | succ d ih =>
    intro i k hi hk
    obtain ⟨k, rfl⟩ : ∃ m, k = m + 1 := ⟨k - 1, by omega⟩
    have hlt : i < L.length := by omega
    have hw : wrap64 ((i : Int) + 1) = ((i + 1 : Nat) : Int) := by unfold wrap64; omega
    have hrd : rd_L2 L (i : Int) = L[i] := by simp [rd_L2, hlt]
    have hb := hL L[i] (List.getElem_mem hlt)
    have hpre : (L.take i).flatten.length ≤ 200 := by
      have e : L.flatten.length = (L.take i).flatten.length + (L.drop i).flatten.length := by rw [← List.length_append, ← List.flatten_append, List.take_append_drop]
      rw [hj] at e
      omega
    simp only [pentroughlaw12_SegJoins.l0]
    rw [hrd, hw, if_pos (by omega), if_pos (by omega), if_neg (by omega), if_neg (by omega), if_pos (by omega)]
    have e2 : (L.take i).flatten ++ L[i] = (L.take (i + 1)).flatten := by rw [List.take_succ_eq_append_getElem hlt, List.flatten_append]; simp
    rw [e2]
    exact ih (i + 1) k (by omega) (by omega)

theorem SegJoins : pentroughlaw12_SegJoins.Pure := by
  intro l q1 q2 q3
  refine ⟨1000, ?_⟩
  unfold pentroughlaw12_SegJoins.f
  rw [awake12j]
  simp only [Option.bind_some]
  by_cases h : (l.length : Int) > 200
  · rw [if_pos h]
  rw [if_neg h]
  have ha : seg_All.f l = some (allP [] c0 l) := by unfold seg_All.f; rw [if_pos (by omega)]
  rw [ha, Option.bind_some]
  have hc := count_allP l
  exact joins_loop l (allP [] c0 l) (len_allP l [] c0 saneG_c0) (by rw [join_allP l [] c0 saneG_c0]; rfl) (by omega) (by omega) (allP [] c0 l).length 0 1000 (by omega) (by omega)
end Go.Proofs.Ytcabijajjceghaa.Pure
