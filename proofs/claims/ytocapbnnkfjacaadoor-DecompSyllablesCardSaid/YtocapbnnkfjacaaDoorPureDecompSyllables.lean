/- DecompSyllables, plainly: what a syllable is made of. No condition. -/
import Derived.Test.YtocapbnnkfjacaaDoorG5
import Derived.Test.YtocapbnnkfjacaaDoorHAwake
namespace Go.Proofs.YtocapbnnkfjacaaDoor.Pure
open Go.RowKit Go.Proofs.YtocapbnnkfjacaaDoor.G Go.Proofs.YtocapbnnkfjacaaDoorW.PrintWords Go.Proofs.YtocapbnnkfjacaaDoorW.PrintLast
set_option linter.unusedVariables false
set_option linter.unusedSimpArgs false

theorem syl_at (x y z : Nat) (x0 : x < 19) (y0 : y < 21) (z0 : z < 28) : sylP ((x * 21 + y) * 28 + z) = [4352 + (x : Int), 4449 + (y : Int)] ++ if z = 0 then [] else [4519 + (z : Int)] := by
  have h1 : ((x * 21 + y) * 28 + z) / 588 = x := Nat.div_eq_of_lt_le (by omega) (by omega)
  have h2 : ((x * 21 + y) * 28 + z) % 588 = y * 28 + z := by
    have h := Nat.div_add_mod ((x * 21 + y) * 28 + z) 588
    rw [h1] at h
    omega
  have h3 : (y * 28 + z) / 28 = y := by omega
  have h4 : ((x * 21 + y) * 28 + z) % 28 = z := (Nat.mul_add_mod' _ _ _).trans (Nat.mod_eq_of_lt z0)
  unfold sylP
  rw [h1, h2, h3, h4]
theorem full_at (x y z : Nat) (x0 : x < 19) (y0 : y < 21) (z0 : z < 28) : fullP (44032 + ((x : Int) * 21 + y) * 28 + z) = [4352 + (x : Int), 4449 + (y : Int)] ++ if z = 0 then [] else [4519 + (z : Int)] := by
  have h1 : ¬ (44032 + ((x : Int) * 21 + y) * 28 + z) < 0 := by omega
  have h2 : 44032 ≤ (44032 + ((x : Int) * 21 + y) * 28 + z) ∧ (44032 + ((x : Int) * 21 + y) * 28 + z) ≤ 55203 := by omega
  unfold fullP
  rw [if_neg h1, if_pos h2]
  have e : (44032 + ((x : Int) * 21 + y) * 28 + z - 44032).toNat = (x * 21 + y) * 28 + z := by omega
  rw [e]
  exact syl_at x y z x0 y0 z0
theorem DecompSyllables : pentroughlaw04_DecompSyllables.Pure := by
  intro a b c _ _ _
  have ea : bits .and .i64 a 65535 = a % 65536 := and_mask 16 (by decide) a
  have eb : bits .and .i64 b 65535 = b % 65536 := and_mask 16 (by decide) b
  have ec : bits .and .i64 c 65535 = c % 65536 := and_mask 16 (by decide) c
  unfold pentroughlaw04_DecompSyllables.f
  rw [awake_f, ea, eb, ec]
  have ha : 0 ≤ a % 65536 := Int.emod_nonneg _ (by decide)
  have hb : 0 ≤ b % 65536 := Int.emod_nonneg _ (by decide)
  have hc : 0 ≤ c % 65536 := Int.emod_nonneg _ (by decide)
  rw [Int.tmod_eq_emod_of_nonneg ha, Int.tmod_eq_emod_of_nonneg hb, Int.tmod_eq_emod_of_nonneg hc]
  obtain ⟨x, hx⟩ : ∃ x : Nat, a % 65536 % 19 = (x : Int) := ⟨(a % 65536 % 19).toNat, by omega⟩
  obtain ⟨y, hy⟩ : ∃ x : Nat, b % 65536 % 21 = (x : Int) := ⟨(b % 65536 % 21).toNat, by omega⟩
  obtain ⟨z, hz⟩ : ∃ x : Nat, c % 65536 % 28 = (x : Int) := ⟨(c % 65536 % 28).toNat, by omega⟩
  rw [hx, hy, hz]
  have x0 : x < 19 := by omega
  have y0 : y < 21 := by omega
  have z0 : z < 28 := by omega
  clear ea eb ec ha hb hc hx hy hz
  have hr : 44032 + ((x : Int) * 21 + y) * 28 + z ≤ 9223372036854775807 := by omega
  have w1 : wrap64 (4352 + (x : Int)) = 4352 + x := by unfold wrap64; omega
  have w2 : wrap64 (4449 + (y : Int)) = 4449 + y := by unfold wrap64; omega
  have w4 : wrap64 (4519 + (z : Int)) = 4519 + z := by unfold wrap64; omega
  have w5 : wrap64 ((x : Int) * 21) = x * 21 := by unfold wrap64; omega
  have w6 : wrap64 ((x : Int) * 21 + y) = x * 21 + y := by unfold wrap64; omega
  have w7 : wrap64 (((x : Int) * 21 + y) * 28) = (x * 21 + y) * 28 := by unfold wrap64; omega
  have w8 : wrap64 (44032 + ((x : Int) * 21 + y) * 28) = 44032 + (x * 21 + y) * 28 := by unfold wrap64; omega
  have w9 : wrap64 (44032 + ((x : Int) * 21 + y) * 28 + z) = 44032 + (x * 21 + y) * 28 + z := by unfold wrap64; omega
  simp only [Option.bind_some, w1, w2, w4, w5, w6, w7, w8, w9]
  clear w1 w2 w4 w5 w6 w7 w8 w9
  rw [full_f _ hr]
  rw [full_at x y z x0 y0 z0, Option.bind_some]
  by_cases h0 : z = 0
  · subst h0
    simp [rd]
  · rw [if_neg h0]
    simp [rd, h0, show (0 < (z : Int)) by omega, show 0 < z by omega]
end Go.Proofs.YtocapbnnkfjacaaDoor.Pure
