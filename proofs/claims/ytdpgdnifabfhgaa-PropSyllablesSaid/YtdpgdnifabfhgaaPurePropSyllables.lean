/- Syllables are in rows of twenty-eight: the first of each is LV, the others are LVT; none is a mark, none is dropped. No condition. -/
import Derived.Test.YtdpgdnifabfhgaaG7
import Derived.Test.YtdpgdnifabfhgaaTabs
namespace Go.Proofs.Ytdpgdnifabfhgaa.Pure
open Go.RowKit Go.Proofs.Ytdpgdnifabfhgaa.G Go.Proofs.YtdpgdnifabfhgaaW.PrintWords Go.Proofs.YtdpgdnifabfhgaaW.PrintLast

def sylB (b : Int) : Bool := !(decide (44032 ≤ b) && decide (b < 55204)) || (ccc b == 0 && !drops b)
theorem syl_all : ∀ b ∈ (-1 : Int) :: allB, sylB b = true := by decide +kernel
theorem syl_at (r : Int) (h : 44032 ≤ r ∧ r < 55204) : ccc r = 0 ∧ drops r = false :=
  few (fun c _ d => c = 0 ∧ d = false) (fun b => 44032 ≤ b ∧ b < 55204) (fun b hb hq => by
      have := syl_all b hb
      simp only [sylB, decide_eq_true hq.1, decide_eq_true hq.2, Bool.and_self, Bool.not_true, Bool.false_or, Bool.and_eq_true, beq_iff_eq, Bool.not_eq_true'] at this
      exact this) r
    (fun b hb => by
      have h1 := hb 44032 (by simp)
      have h2 := hb 55204 (by simp)
      omega)

theorem PropSyllables : pentroughlaw03_PropSyllables.Pure := by
  intro n _
  refine ⟨100, ?_⟩
  have ha : pentroughlaw03_awake.f 100 = some true := by decide +kernel
  have hb : bits .and .i64 n 16777215 = n % 16777216 := and_mask 24 (by decide) n
  unfold pentroughlaw03_PropSyllables.f
  rw [ha, hb]
  simp only [Option.bind_some]
  have h0 : 0 ≤ n % 16777216 := Int.emod_nonneg _ (by decide)
  rw [Int.tmod_eq_emod_of_nonneg h0]
  generalize hk : n % 16777216 % 11172 = k
  have hk0 : 0 ≤ k := by omega
  have hk1 : k < 11172 := by omega
  rw [Int.tmod_eq_emod_of_nonneg hk0]
  have hw : wrap64 (44032 + k) = 44032 + k := by unfold wrap64; omega
  rw [hw]
  obtain ⟨hc, hd⟩ := syl_at (44032 + k) (by omega)
  have hg : gcb (44032 + k) = if k % 28 = 0 then 12 else 13 := by
    unfold gcb
    rw [if_pos (by omega), show 44032 + k - 44032 = k by omega]
  have hm : isMk (44032 + k) = false := by simp [isMk, hc]
  split
  · rename_i h
    rw [if_pos h] at hg
    simp only [pentroughlaw03_PropSyllables.j0]
    rw [Gcb_is _ _ (by decide), Mark_is, Drops_is, Ccc_is]
    simp [hg, hm, hd, hc]
  · rename_i h
    rw [if_neg h] at hg
    simp only [pentroughlaw03_PropSyllables.j0]
    rw [Gcb_is _ _ (by decide), Mark_is, Drops_is, Ccc_is]
    simp [hg, hm, hd, hc]

end Go.Proofs.Ytdpgdnifabfhgaa.Pure
