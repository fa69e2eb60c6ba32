/- Flags stand in twos; of pictures with joiners between it ends nowhere. No condition. -/
import Derived.Test.YtdpgdnifabfhgaaG26
import Derived.Test.YtdpgdnifabfhgaaClus
namespace Go.Proofs.Ytdpgdnifabfhgaa.Pure
open Go.RowKit Go.Proofs.Ytdpgdnifabfhgaa.G Go.Proofs.YtdpgdnifabfhgaaW.PrintWords Go.Proofs.YtdpgdnifabfhgaaW.PrintLast

theorem awake11f : pentroughlaw11_awake.f 1000 = some true := by decide +kernel
theorem flag_kinds : ∀ v ∈ List.range 26, gcb (127462 + (v : Int)) = 6 := by decide +kernel
theorem pict_kinds : ∀ v ∈ List.range 64, gcb (128512 + (v : Int)) = 14 := by decide +kernel
def pairs (a b : Int) (n : Nat) : List Int := (List.replicate n [a, b]).flatten
theorem pairs_succ (a b : Int) (n : Nat) : pairs a b n ++ [a, b] = pairs a b (n + 1) := by
  unfold pairs
  rw [List.replicate_succ', List.flatten_append]
  simp
theorem pairs_length (a b : Int) (n : Nat) : (pairs a b n).length = 2 * n := by
  induction n with
  | zero => rfl
  | succ n ih => rw [← pairs_succ, List.length_append, ih]; simp; omega
theorem pairs_map (f : Int → Int) (a b : Int) (n : Nat) : (pairs a b n).map f = pairs (f a) (f b) n := by
  induction n with
  | zero => rfl
  | succ n ih => rw [← pairs_succ, List.map_append, ih, ← pairs_succ]; rfl
theorem flags_fin : ∀ n ∈ List.range 64, pentroughlaw11_ClusFlags.j1 300 true (n : Int) (cutsK c0 (List.replicate n 6)) (cutsK c0 (pairs 14 5 n)) false = some true := by decide +kernel
theorem flags_up (k : Nat) (hk : 300 ≤ k) (n : Nat) (hn : n < 64) : pentroughlaw11_ClusFlags.j1 k true (n : Int) (cutsK c0 (List.replicate n 6)) (cutsK c0 (pairs 14 5 n)) false = some true :=
  at_rounds (g := fun k => pentroughlaw11_ClusFlags.j1 k true (n : Int) (cutsK c0 (List.replicate n 6)) (cutsK c0 (pairs 14 5 n)) false) (fun k => (pentroughlaw11_ClusFlags.mono_l k).2.1 _ _ _ _ _) hk (flags_fin n (by rw [List.mem_range]; exact hn))

theorem flags_loop (a fl pi : Int) (n : Nat) (hn : n < 64) (hf : gcb fl = 6) (hp : gcb pi = 14) (ea : Aside0 (wrap64 (127462 + (Int.tmod (bits .and .i64 a 65535) 26)) = fl)) (eb : Aside0 (wrap64 (128512 + (Int.tmod (bits .and .i64 a 65535) 64)) = pi)) :
    ∀ (d i k : Nat), n = i + d → d + 600 ≤ k → pentroughlaw11_ClusFlags.l0 k a true (n : Int) (List.replicate i fl) (pairs pi 8205 i) (i : Int) = some true := by
  have hj : gcb 8205 = 5 := by decide +kernel
  intro d
  induction d with
  | zero =>
    intro i k hi hk
    obtain ⟨k, rfl⟩ : ∃ m, k = m + 1 := ⟨k - 1, by omega⟩
    obtain rfl : n = i := by omega
    have e1 : cuts c0 (List.replicate n fl) = cutsK c0 (List.replicate n 6) := by unfold cuts; rw [List.map_replicate, hf]
    have e2 : cuts c0 (pairs pi 8205 n) = cutsK c0 (pairs 14 5 n) := by unfold cuts; rw [pairs_map, hp, hj]
    have e3 : (((cutsK c0 (pairs 14 5 n)).length : Int) != wrap64 (2 * (n : Int))) = false := by
      rw [cutsK_length, pairs_length]
      have : wrap64 (2 * (n : Int)) = ((2 * n : Nat) : Int) := by unfold wrap64; omega
      rw [this]; simp
    simp only [pentroughlaw11_ClusFlags.l0]
    rw [if_neg (by omega), Cuts_is _ _ (Nat.lt_trans (show (List.replicate n fl).length < 64 by rw [List.length_replicate]; omega) (by decide)) (by rw [List.length_replicate]; omega), Cuts_is _ _ (Nat.lt_trans (show (pairs pi 8205 n).length < 200 by rw [pairs_length]; omega) (by decide)) (by rw [pairs_length]; omega)]
    simp only [Option.bind_some]
    rw [e1, e2, if_pos (by rw [cutsK_length]; simp), e3]
    exact flags_up k (by omega) n hn
  | succ d ih =>
    intro i k hi hk
    obtain ⟨k, rfl⟩ : ∃ m, k = m + 1 := ⟨k - 1, by omega⟩
    have hw : wrap64 ((i : Int) + 1) = ((i + 1 : Nat) : Int) := by unfold wrap64; omega
    simp only [pentroughlaw11_ClusFlags.l0]
    rw [if_pos (by omega), if_pos (Nat.lt_trans (show (List.replicate i fl).length < 64 by rw [List.length_replicate]; omega) (by decide)), ea.out, eb.out, hw]
    simp only [Option.bind_some]
    rw [if_pos (Nat.lt_trans (show (pairs pi 8205 i).length + [pi, 8205].length < 200 by rw [pairs_length]; show 2 * i + 2 < 200; omega) (by decide)), pairs_succ, ← List.replicate_succ']
    exact ih (i + 1) k (by omega) (by omega)

theorem ClusFlags : pentroughlaw11_ClusFlags.Pure := by
  intro n a q1 q2
  clear q1 q2
  refine ⟨1000, ?_⟩
  have en : bits .and .i64 n 63 = n % 64 := and_mask 6 (by decide) n
  have ea : bits .and .i64 a 65535 = a % 65536 := and_mask 16 (by decide) a
  unfold pentroughlaw11_ClusFlags.f
  rw [awake11f, en]
  simp only [Option.bind_some]
  have h0 : 0 ≤ n % 64 := Int.emod_nonneg _ (by decide)
  have ha : 0 ≤ a % 65536 := Int.emod_nonneg _ (by decide)
  obtain ⟨m, hm⟩ := Int.eq_ofNat_of_zero_le h0
  rw [hm]
  have hx0 : 0 ≤ a % 65536 % 26 := Int.emod_nonneg _ (by decide)
  have hy0 : 0 ≤ a % 65536 % 64 := Int.emod_nonneg _ (by decide)
  obtain ⟨x, hx⟩ := Int.eq_ofNat_of_zero_le hx0
  obtain ⟨y, hy⟩ := Int.eq_ofNat_of_zero_le hy0
  refine flags_loop a (127462 + x) (128512 + y) m (by omega) (flag_kinds x (by rw [List.mem_range]; omega)) (pict_kinds y (by rw [List.mem_range]; omega)) ?_ ?_ m 0 1000 (by omega) (by omega)
  · refine ⟨?_⟩; rw [ea, Int.tmod_eq_emod_of_nonneg ha, hx]; unfold wrap64; omega
  · refine ⟨?_⟩; rw [ea, Int.tmod_eq_emod_of_nonneg ha, hy]; unfold wrap64; omega

end Go.Proofs.Ytdpgdnifabfhgaa.Pure
