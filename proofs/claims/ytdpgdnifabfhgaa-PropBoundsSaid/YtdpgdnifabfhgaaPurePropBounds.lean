/- What is no scalar value has no property; a class is 0 to 240, a kind 0 to 14; a mark is of a kind that extends. No condition. -/
import Derived.Test.YtdpgdnifabfhgaaG10
import Derived.Test.YtdpgdnifabfhgaaTabs
namespace Go.Proofs.Ytdpgdnifabfhgaa.Pure
open Go.RowKit Go.Proofs.Ytdpgdnifabfhgaa.G Go.Proofs.YtdpgdnifabfhgaaW.PrintWords Go.Proofs.YtdpgdnifabfhgaaW.PrintLast

theorem good_is (r : Int) : dec_Good.f r = some (goodB r) := by
  unfold dec_Good.f goodB
  by_cases a : 0 ≤ r <;> by_cases b : r ≤ 1114111 <;> by_cases c : r < 55296 <;> simp [a, b, c]
theorem PropBounds : pentroughlaw03_PropBounds.Pure := by
  intro r _
  refine ⟨100, ?_⟩
  have ha : pentroughlaw03_awake.f 100 = some true := by decide +kernel
  obtain ⟨h1, h2, h3, h4, h5, h6⟩ := bounds_at r
  unfold pentroughlaw03_PropBounds.f
  rw [ha, Ccc_is, Gcb_is 100 r (by decide), good_is, Mark_is, Drops_is]
  simp only [Option.bind_some, if_true]
  cases hg : goodB r with
  | true =>
    simp only [if_true]
    rw [if_pos h2, if_pos h3, if_pos h4, if_pos h5]
    unfold isMk
    rcases h6 with h6 | h6 <;> by_cases e : ccc r = 0 <;> simp [h6, e]
  | false =>
    obtain ⟨a, b, c⟩ := h1 hg
    simp [a, b, c, isMk]

end Go.Proofs.Ytdpgdnifabfhgaa.Pure
