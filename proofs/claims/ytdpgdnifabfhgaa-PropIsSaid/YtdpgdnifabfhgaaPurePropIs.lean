/- Of any number its class, its kind, whether it is a mark, and whether it is dropped, are what the reference says. No condition. -/
import Derived.Test.YtdpgdnifabfhgaaG6
import Derived.Test.YtdpgdnifabfhgaaTabs
namespace Go.Proofs.Ytdpgdnifabfhgaa.Pure
open Go.RowKit Go.Proofs.Ytdpgdnifabfhgaa.G Go.Proofs.YtdpgdnifabfhgaaW.PrintWords Go.Proofs.YtdpgdnifabfhgaaW.PrintLast

theorem PropIs : pentroughlaw03_PropIs.Pure := by
  intro r _
  refine ⟨100, ?_⟩
  have ha : pentroughlaw03_awake.f 100 = some true := by decide +kernel
  unfold pentroughlaw03_PropIs.f
  rw [ha]
  simp only [Option.bind_some, if_true]
  rw [Ccc_is, rCcc_is 100 r (by decide)]
  simp only [Option.bind_some, if_true]
  rw [Gcb_is 100 r (by decide), rGcb_is 100 r (by decide)]
  simp only [Option.bind_some, if_true]
  rw [Drops_is, rDrops_is 100 r (by decide)]
  simp only [Option.bind_some, beq_self_eq_true, if_true]
  rw [Mark_is, rMark_is 100 r (by decide)]
  simp

end Go.Proofs.Ytdpgdnifabfhgaa.Pure
