/- What is ASCII: no mark, nothing that is dropped; CR and LF are kinds of their own, what else is below 20 hex, or 7F, controls; all else is of no kind. No condition. -/
import Derived.Test.YtdpgdnifabfhgaaG8
import Derived.Test.YtdpgdnifabfhgaaTabs
namespace Go.Proofs.Ytdpgdnifabfhgaa.Pure
open Go.RowKit Go.Proofs.Ytdpgdnifabfhgaa.G Go.Proofs.YtdpgdnifabfhgaaW.PrintWords Go.Proofs.YtdpgdnifabfhgaaW.PrintLast

def wantA (k : Int) : Int := if k = 10 then 2 else if k = 13 then 1 else if k < 32 ∨ k = 127 then 3 else 0
theorem ascii_all : ∀ k ∈ List.range 128, gcb (k : Nat) = wantA (k : Nat) ∧ ccc (k : Nat) = 0 ∧ drops (k : Nat) = false := by decide +kernel

theorem PropAscii : pentroughlaw03_PropAscii.Pure := by
  intro n _
  refine ⟨100, ?_⟩
  have ha : pentroughlaw03_awake.f 100 = some true := by decide +kernel
  have hb : bits .and .i64 n 127 = n % 128 := and_mask 7 (by decide) n
  unfold pentroughlaw03_PropAscii.f
  rw [ha, hb]
  simp only [Option.bind_some]
  have h0 : 0 ≤ n % 128 := Int.emod_nonneg _ (by decide)
  have h1 : n % 128 < 128 := Int.emod_lt_of_pos _ (by decide)
  obtain ⟨k, hk⟩ := Int.eq_ofNat_of_zero_le h0
  rw [hk]
  obtain ⟨hg, hc, hd⟩ := ascii_all k (by rw [List.mem_range]; omega)
  have hm : isMk (k : Nat) = false := by simp [isMk, hc]
  have fin : ∀ j w, gcb (k : Nat) = w → pentroughlaw03_PropAscii.j3 (j + 2) true (k : Nat) w = some true := fun j w e => by
    simp only [pentroughlaw03_PropAscii.j3]
    rw [Gcb_is _ _ (by omega), Mark_is, Ccc_is, Drops_is]
    simp [e, hm, hd, hc]
  unfold wantA at hg
  have g1 : ∀ j w, (¬ (k : Int) = 10 → ¬ (k : Int) = 13 → gcb (k : Nat) = w) → pentroughlaw03_PropAscii.j1 (j + 4) true (k : Nat) w = some true := fun j w e => by
    simp only [pentroughlaw03_PropAscii.j1, pentroughlaw03_PropAscii.j2]
    by_cases e13 : (k : Int) = 13
    · rw [if_pos e13, if_neg (by omega)]
      exact fin _ 1 (by rw [hg, if_neg (by omega), if_pos e13])
    · rw [if_neg e13]
      by_cases e10 : (k : Int) = 10
      · rw [if_pos e10]
        exact fin _ 2 (by rw [hg, if_pos e10])
      · rw [if_neg e10]
        exact fin _ w (e e10 e13)
  have g0 : ∀ j b, (b = true ↔ ((k : Int) < 32 ∨ (k : Int) = 127)) → pentroughlaw03_PropAscii.j0 (j + 5) true (k : Nat) 0 b = some true := fun j b hb => by
    simp only [pentroughlaw03_PropAscii.j0]
    cases b with
    | true =>
      simp only [if_true]
      exact g1 _ 3 (fun a b => by rw [hg, if_neg a, if_neg b, if_pos (hb.1 rfl)])
    | false =>
      simp only [Bool.false_eq_true, if_false]
      exact g1 _ 0 (fun a b => by rw [hg, if_neg a, if_neg b, if_neg (fun h => by have := hb.2 h; cases this)])
  split
  · rename_i h
    exact g0 _ true (by simp [h])
  · rename_i h
    exact g0 _ _ (by simp; omega)

end Go.Proofs.Ytdpgdnifabfhgaa.Pure
