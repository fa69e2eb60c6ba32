/- Plain facts that every law of layer 4 asks: the document's example, what a mask leaves, what decomp.Full is within the kind's range. -/
import Derived.Test.YtocapbnnkfjacaaDoorG4
import Derived.Test.YtocapbnnkfjacaaDoorHFull
namespace Go.Proofs.YtocapbnnkfjacaaDoor.G
open Go.RowKit Go.Proofs.YtocapbnnkfjacaaDoorW.PrintWords Go.Proofs.YtocapbnnkfjacaaDoorW.PrintLast Go.Proofs.YtocapbnnkfjacaaDoorW.PrintMore
set_option linter.unusedVariables false
set_option linter.unusedSimpArgs false

theorem awake_f : pentroughlaw04_awake.f = some true := by decide +kernel
theorem full_f (r : Int) (h : r ≤ 9223372036854775807) : decomp_Full.f r = some (fullP r) := if_pos h
theorem is_f (r : Int) (h : r ≤ 9223372036854775807) (hl : 1 ≤ (fullP r).length) : decomp_Is.f r = some (decide ((fullP r).length > 1) || (rd (fullP r) 0 != r)) := by
  unfold decomp_Is.f
  rw [full_f r h, Option.bind_some]
  by_cases h1 : ((fullP r).length : Int) > 1
  · rw [if_pos h1, decide_eq_true (by omega)]; rfl
  · rw [if_neg h1, if_pos (by omega), decide_eq_false (by omega)]; rfl
theorem full_ne (r : Int) : 1 ≤ (fullP r).length ∧ (fullP r).length ≤ 4 := by
  unfold fullP sylP
  split
  · simp
  · split
    · rw [List.length_append]
      split <;> simp
    · split
      · simp
      · split
        · rename_i p h
          have := rows_ok p (List.mem_of_find?_eq_some h)
          rw [List.length_map]
          omega
        · simp
theorem and_mask (i : Nat) (hi : i ≤ 62) (x : Int) : bits .and .i64 x (2 ^ i - 1) = x % 2 ^ i := by
  have hpos : 0 < 2 ^ i := Nat.two_pow_pos i
  have hle : 2 ^ i ≤ 2 ^ 62 := Nat.pow_le_pow_right (by decide) hi
  have hc : ((2 : Int) ^ i - 1) = ((2 ^ i - 1 : Nat) : Int) := by rw [Int.natCast_sub hpos]; simp
  have hm : (2 ^ i - 1) % 2 ^ 64 = 2 ^ i - 1 := Nat.mod_eq_of_lt (by omega)
  have hd : (2 : Nat) ^ i ∣ 2 ^ 64 := Nat.pow_dvd_pow 2 (by omega)
  have hb : IntKind.bits .i64 = 64 := rfl
  rw [hc]
  unfold bits
  simp only [hb, BitVec.toNat_and, BitVec.toNat_ofInt, BitVec.ofInt_natCast, BitVec.toNat_ofNat, hm, Nat.and_two_pow_sub_one_eq_mod]
  have h0 : 0 ≤ x % ((2 ^ 64 : Nat) : Int) := Int.emod_nonneg _ (by decide)
  have hx : (((x % ((2 ^ 64 : Nat) : Int)).toNat % 2 ^ i : Nat) : Int) = x % 2 ^ i := by
    rw [Int.natCast_emod, Int.toNat_of_nonneg h0]
    have : ((2 ^ i : Nat) : Int) ∣ ((2 ^ 64 : Nat) : Int) := by exact_mod_cast hd
    rw [Int.emod_emod_of_dvd _ this]
    simp
  rw [hx, IntKind.wrap_i64]
  have h1 : 0 ≤ x % 2 ^ i := Int.emod_nonneg _ (by have : (0 : Int) < 2 ^ i := by exact_mod_cast hpos
                                                   omega)
  have h2 : x % 2 ^ i < 2 ^ i := Int.emod_lt_of_pos _ (by exact_mod_cast hpos)
  have h3 : (2 : Int) ^ i ≤ 2 ^ 62 := by exact_mod_cast hle
  omega

end Go.Proofs.YtocapbnnkfjacaaDoor.G
