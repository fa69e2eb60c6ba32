/- No mark is dropped; what is put between marks is none, is dropped, and extends. No condition. -/
import Derived.Test.YtdpgdnifabfhgaaG9
import Derived.Test.YtdpgdnifabfhgaaTabs
namespace Go.Proofs.Ytdpgdnifabfhgaa.Pure
open Go.RowKit Go.Proofs.Ytdpgdnifabfhgaa.G Go.Proofs.YtdpgdnifabfhgaaW.PrintWords Go.Proofs.YtdpgdnifabfhgaaW.PrintLast

theorem apart_all : ∀ b ∈ (-1 : Int) :: allB, (decide (ccc b > 0) && drops b) = false := by decide +kernel
theorem apart_at (r : Int) : (decide (ccc r > 0) && drops r) = false :=
  few (fun c _ d => (decide (c > 0) && d) = false) (fun _ => True) (fun b hb _ => apart_all b hb) r (fun _ _ => trivial)

theorem PropMarks : pentroughlaw03_PropMarks.Pure := by
  intro r _
  refine ⟨100, ?_⟩
  have ha : pentroughlaw03_awake.f 100 = some true := by decide +kernel
  have h := apart_at r
  have e1 : prop_Mark.f 847 = some false := by decide +kernel
  have e2 : prop_Drops.f 847 = some true := by decide +kernel
  have e3 : prop_Gcb.f 100 847 = some 4 := by decide +kernel
  unfold pentroughlaw03_PropMarks.f
  rw [ha, Mark_is, Drops_is, e1, e2, e3]
  simp only [Option.bind_some, if_true]
  change (isMk r && drops r) = false at h
  cases hm : isMk r with
  | true =>
    rw [hm] at h
    simp at h
    simp [h]
  | false => simp

end Go.Proofs.Ytdpgdnifabfhgaa.Pure
