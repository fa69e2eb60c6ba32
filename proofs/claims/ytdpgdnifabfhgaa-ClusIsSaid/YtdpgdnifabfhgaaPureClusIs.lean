/- Of any state, value and values, whether it may be, whether what came ends, what is behind, and where values end, are what the reference says. No condition. -/
import Derived.Test.YtdpgdnifabfhgaaG22
import Derived.Test.YtdpgdnifabfhgaaG16
import Derived.Test.YtdpgdnifabfhgaaG20
import Derived.Test.YtdpgdnifabfhgaaClusR
namespace Go.Proofs.Ytdpgdnifabfhgaa.Pure
open Go.RowKit Go.Proofs.Ytdpgdnifabfhgaa.G Go.Proofs.YtdpgdnifabfhgaaW.PrintWords Go.Proofs.YtdpgdnifabfhgaaW.PrintLast

theorem awake11i : pentroughlaw11_awake.f 1000 = some true := by decide +kernel

theorem ClusIs (a0 : Bool) (a1 : Int) (a2 a3 : Bool) (r : Int) (l : List Int) : ∃ k, pentroughlaw11_ClusIs.f k a0 a1 a2 a3 r l = some true := by
  refine ⟨1000, ?_⟩
  unfold pentroughlaw11_ClusIs.f pentroughlaw11_ours.f pentroughlaw11_theirs.f
  rw [awake11i]
  simp only [Option.bind_some, if_true]
  by_cases h : (l.length : Int) > 200
  · rw [if_pos h]
  rw [if_neg h]
  have h1 := sane_is 1000 ⟨a0, a1, a2, a3⟩ (by decide)
  have h2 := rSane_is ⟨a0, a1, a2, a3⟩
  have h3 := ends_is 1000 ⟨a0, a1, a2, a3⟩ r (by decide)
  have h4 := rEnds_is 1000 ⟨a0, a1, a2, a3⟩ r (by decide)
  have h5 := next_is ⟨a0, a1, a2, a3⟩ r
  have h6 := rNext_is ⟨a0, a1, a2, a3⟩ r
  simp only at h1 h2 h3 h4 h5 h6
  rw [h1, h2]
  simp only [Option.bind_some, beq_self_eq_true, if_true]
  rw [h3, h4]
  simp only [Option.bind_some, beq_self_eq_true, if_true]
  rw [h5, h6]
  simp only [Option.bind_some, beq_self_eq_true, Bool.and_self, if_true]
  rw [Cuts_is 1000 l (by omega) (by omega), rCuts_is 1000 l (by omega) (by omega)]
  simp only [Option.bind_some]
  rw [SameB_is 1000 _ _ (by rw [cuts_length]; omega) (by rw [cuts_length]; omega)]
  simp

end Go.Proofs.Ytdpgdnifabfhgaa.Pure
