/- A syllable is one: of a lead, a vowel and a tail, as three values, as two, and as one, nothing ends within; ahead of a second one it ends. No condition. -/
import Derived.Test.YtdpgdnifabfhgaaG28
import Derived.Test.YtdpgdnifabfhgaaClus
namespace Go.Proofs.Ytdpgdnifabfhgaa.Pure
open Go.RowKit Go.Proofs.Ytdpgdnifabfhgaa.G Go.Proofs.YtdpgdnifabfhgaaW.PrintWords Go.Proofs.YtdpgdnifabfhgaaW.PrintLast

theorem syl_cuts : cutsK c0 [9, 10, 11, 12, 11, 13, 9, 12] = [false, false, false, true, false, true, true, false] := by decide +kernel
theorem awake11 : pentroughlaw11_awake.f 100 = some true := by decide +kernel

theorem ClusSyllables : pentroughlaw11_ClusSyllables.Pure := by
  intro a b c _ _ _
  refine ⟨100, ?_⟩
  have ea : bits .and .i64 a 65535 = a % 65536 := and_mask 16 (by decide) a
  have eb : bits .and .i64 b 65535 = b % 65536 := and_mask 16 (by decide) b
  have ec : bits .and .i64 c 65535 = c % 65536 := and_mask 16 (by decide) c
  unfold pentroughlaw11_ClusSyllables.f
  rw [awake11, ea, eb, ec]
  have ha : 0 ≤ a % 65536 := Int.emod_nonneg _ (by decide)
  have hb : 0 ≤ b % 65536 := Int.emod_nonneg _ (by decide)
  have hc : 0 ≤ c % 65536 := Int.emod_nonneg _ (by decide)
  rw [Int.tmod_eq_emod_of_nonneg ha, Int.tmod_eq_emod_of_nonneg hb, Int.tmod_eq_emod_of_nonneg hc]
  generalize hx : a % 65536 % 19 = x
  generalize hy : b % 65536 % 21 = y
  generalize hz : c % 65536 % 27 = z
  have x0 : 0 ≤ x ∧ x < 19 := by omega
  have y0 : 0 ≤ y ∧ y < 21 := by omega
  have z0 : 0 ≤ z ∧ z < 27 := by omega
  have w1 : wrap64 (4352 + x) = 4352 + x := by unfold wrap64; omega
  have w2 : wrap64 (4449 + y) = 4449 + y := by unfold wrap64; omega
  have w3 : wrap64 (z + 1) = z + 1 := by unfold wrap64; omega
  have w4 : wrap64 (4519 + (z + 1)) = 4519 + (z + 1) := by unfold wrap64; omega
  have w5 : wrap64 (x * 21) = x * 21 := by unfold wrap64; omega
  have w6 : wrap64 (x * 21 + y) = x * 21 + y := by unfold wrap64; omega
  have w7 : wrap64 ((x * 21 + y) * 28) = (x * 21 + y) * 28 := by unfold wrap64; omega
  have w8 : wrap64 (44032 + (x * 21 + y) * 28) = 44032 + (x * 21 + y) * 28 := by unfold wrap64; omega
  have w9 : wrap64 (44032 + (x * 21 + y) * 28 + (z + 1)) = 44032 + (x * 21 + y) * 28 + (z + 1) := by unfold wrap64; omega
  simp only [Option.bind_some, w1, w2, w3, w4, w5, w6, w7, w8, w9]
  rw [Cuts_is 100 _ (by simp) (by simp)]
  have g1 : gcb (4352 + x) = 9 := gcb_at 20 ⟨0x1100, 0x115F, 9⟩ rfl _ (by simp; omega) (by simp; omega) (.inl (by omega))
  have g2 : gcb (4449 + y) = 10 := gcb_at 21 ⟨0x1160, 0x11A7, 10⟩ rfl _ (by simp; omega) (by simp; omega) (.inl (by omega))
  have g3 : gcb (4519 + (z + 1)) = 11 := gcb_at 22 ⟨0x11A8, 0x11FF, 11⟩ rfl _ (by simp; omega) (by simp; omega) (.inl (by omega))
  have g4 : gcb (44032 + (x * 21 + y) * 28) = 12 := by unfold gcb; rw [if_pos (by omega), if_pos (by omega)]
  have g5 : gcb (44032 + (x * 21 + y) * 28 + (z + 1)) = 13 := by unfold gcb; rw [if_pos (by omega), if_neg (by omega)]
  have hcut : cuts c0 [4352 + x, 4449 + y, 4519 + (z + 1), 44032 + (x * 21 + y) * 28, 4519 + (z + 1), 44032 + (x * 21 + y) * 28 + (z + 1), 4352 + x, 44032 + (x * 21 + y) * 28] = [false, false, false, true, false, true, true, false] := by
    simp only [cuts, List.map_cons, List.map_nil, g1, g2, g3, g4, g5]
    exact syl_cuts
  rw [hcut]
  decide +kernel

end Go.Proofs.Ytdpgdnifabfhgaa.Pure
