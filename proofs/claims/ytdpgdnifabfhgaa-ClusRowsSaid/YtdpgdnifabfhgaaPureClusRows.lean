/- What came ahead of a letter does not matter behind it. No condition. -/
import Derived.Test.YtdpgdnifabfhgaaG27
import Derived.Test.YtdpgdnifabfhgaaClus
namespace Go.Proofs.Ytdpgdnifabfhgaa.Pure
open Go.RowKit Go.Proofs.Ytdpgdnifabfhgaa.G Go.Proofs.YtdpgdnifabfhgaaW.PrintWords Go.Proofs.YtdpgdnifabfhgaaW.PrintLast

theorem awake11r : pentroughlaw11_awake.f 400 = some true := by decide +kernel
theorem letters : ∀ v ∈ List.range 26, gcb (97 + (v : Int)) = 0 := by decide +kernel
theorem next_letter (s : CS) : nextK s 0 = ⟨true, 0, false, false⟩ := by simp [nextK]
theorem behind (a : List Int) (x : Int) (b : List Int) (hx : gcb x = 0) (s : CS) : (cuts s (a ++ x :: b)).drop (a.length + 1) = cuts ⟨true, 0, false, false⟩ b := by
  unfold cuts
  rw [List.map_append, cutsK_append, List.map_cons, hx]
  have hd : (cutsK s (a.map gcb) ++ cutsK (runK s (a.map gcb)) (0 :: b.map gcb)).drop (a.length + 1) = (cutsK (runK s (a.map gcb)) (0 :: b.map gcb)).drop 1 := by
    have e : a.length = (cutsK s (a.map gcb)).length := by rw [cutsK_length, List.length_map]
    rw [e, List.drop_length_add_append]
  rw [hd]
  simp [cutsK, next_letter]

theorem wrap_small {n : Int} (h0 : 0 ≤ n) (h1 : n ≤ 1000000) : wrap64 n = n := by unfold wrap64; omega
theorem glue (T U : List Bool) (p q r : Int) (g : Option Bool) (h1 : (T.length : Int) = p) (h2 : (U.length : Int) = q) (h3 : 0 ≤ r) (h4 : r ≤ (T.length : Int)) (h5 : 1 ≤ (U.length : Int)) (hg : g = some true) :
    (if (T.length : Int) = p then (if (U.length : Int) = q then (if 0 ≤ r then (if r ≤ (T.length : Int) then (if 1 ≤ (U.length : Int) then g.bind fun v => some v else none) else none) else none) else some false) else some false) = some true := by
  rw [if_pos h1, if_pos h2, if_pos h3, if_pos h4, if_pos h5, hg]
  rfl
theorem rows_core (a b : List Int) (y : Int) (hl : gcb y = 0) (h1 : a.length ≤ 100) (h2 : b.length ≤ 100) :
    (clus_Cuts.f 399 (a ++ y :: b)).bind (fun t => (clus_Cuts.f 399 (y :: b)).bind fun u => if (t.length : Int) = wrap64 ((a.length : Int) + ((y :: b).length : Int)) then (if (u.length : Int) = ((y :: b).length : Int) then
      (if 0 ≤ wrap64 ((a.length : Int) + 1) then (if wrap64 ((a.length : Int) + 1) ≤ (t.length : Int) then (if 1 ≤ (u.length : Int) then (pentroughref11_Same.f 399 (t.drop (wrap64 ((a.length : Int) + 1)).toNat) (u.drop 1)).bind fun v => some v else none) else none) else none) else some false) else some false) = some true := by
  have l1 : (a ++ y :: b).length = a.length + (b.length + 1) := by simp
  have l2 : (y :: b).length = b.length + 1 := rfl
  have F1 : clus_Cuts.f 399 (a ++ y :: b) = some (cuts c0 (a ++ y :: b)) := Cuts_is 399 _ (Nat.lt_trans (show (a ++ y :: b).length < 399 by omega) (by decide)) (by omega)
  have F2 : clus_Cuts.f 399 (y :: b) = some (cuts c0 (y :: b)) := Cuts_is 399 _ (Nat.lt_trans (show (y :: b).length < 399 by omega) (by decide)) (by omega)
  have n1 : (cuts c0 (a ++ y :: b)).length = a.length + (b.length + 1) := by rw [cuts_length, l1]
  have n2 : (cuts c0 (y :: b)).length = b.length + 1 := by rw [cuts_length, l2]
  have w2 : wrap64 ((a.length : Int) + ((y :: b).length : Int)) = ((a.length + (b.length + 1) : Nat) : Int) := by rw [wrap_small (by omega) (by omega), l2]; omega
  have w3 : wrap64 ((a.length : Int) + 1) = ((a.length + 1 : Nat) : Int) := by rw [wrap_small (by omega) (by omega)]; omega
  have h3 := behind a y b hl c0
  have h4 : (cuts c0 (y :: b)).drop 1 = cuts ⟨true, 0, false, false⟩ b := behind [] y b hl c0
  have n3 : (cuts ⟨true, 0, false, false⟩ b).length = b.length := cuts_length _ _
  have F3 : pentroughref11_Same.f 399 (cuts ⟨true, 0, false, false⟩ b) (cuts ⟨true, 0, false, false⟩ b) = some true := by
    rw [SameB_is 399 _ _ (Nat.lt_trans (show (cuts ⟨true, 0, false, false⟩ b).length < 399 by omega) (by decide)) (by omega)]
    simp
  have hg : pentroughref11_Same.f 399 ((cuts c0 (a ++ y :: b)).drop (wrap64 ((a.length : Int) + 1)).toNat) ((cuts c0 (y :: b)).drop 1) = some true := by
    rw [w3, Int.toNat_natCast, h3, h4, F3]
  rw [F1, Option.bind_some, F2, Option.bind_some]
  exact glue _ _ _ _ _ _ (by rw [w2, n1]) (by rw [n2, l2]) (by rw [w3]; omega) (by rw [w3, n1]; omega) (by rw [n2]; omega) hg

theorem ClusRows : pentroughlaw11_ClusRows.Pure := by
  intro a c b q1 q2 q3 q4 q5 q6 q7
  clear q1 q2 q3 q4 q5 q6 q7
  refine ⟨400, ?_⟩
  unfold pentroughlaw11_ClusRows.f
  rw [awake11r]
  simp only [Option.bind_some]
  by_cases h1 : (a.length : Int) > 100
  · rw [if_pos h1]; simp only [pentroughlaw11_ClusRows.j0, if_true]
  rw [if_neg h1]
  by_cases h2 : (b.length : Int) > 100
  · rw [decide_eq_true h2]; simp only [pentroughlaw11_ClusRows.j0, if_true]
  rw [decide_eq_false h2]
  have ec : bits .and .i64 c 65535 = c % 65536 := and_mask 16 (by decide) c
  have hc : 0 ≤ c % 65536 := Int.emod_nonneg _ (by decide)
  simp only [pentroughlaw11_ClusRows.j0, Bool.false_eq_true, if_false, if_true]
  rw [ec, Int.tmod_eq_emod_of_nonneg hc]
  generalize hx : c % 65536 % 26 = x
  have x0 : 0 ≤ x ∧ x < 26 := by omega
  have w1 : wrap64 (97 + x) = 97 + x := by unfold wrap64; omega
  obtain ⟨v, rfl⟩ := Int.eq_ofNat_of_zero_le x0.1
  have hl := letters v (by rw [List.mem_range]; omega)
  rw [w1]
  clear hx ec hc w1 x0
  generalize 97 + (v : Int) = y at *
  have p1 : [y].length + b.length < 17592186044416 := Nat.lt_trans (show 1 + b.length < 399 by omega) (by decide)
  have p2 : ([] : List Int).length + a.length < 17592186044416 := Nat.lt_trans (show 0 + a.length < 399 by omega) (by decide)
  have p3 : ([] ++ a).length + ([y] ++ b).length < 17592186044416 := Nat.lt_trans (show ([] ++ a).length + ([y] ++ b).length < 399 by simp; omega) (by decide)
  rw [Option.bind_some, if_pos p1, Option.bind_some, Option.bind_some, if_pos p2, Option.bind_some, if_pos p3, List.nil_append, List.singleton_append]
  exact rows_core a b y hl (by omega) (by omega)

end Go.Proofs.Ytdpgdnifabfhgaa.Pure
