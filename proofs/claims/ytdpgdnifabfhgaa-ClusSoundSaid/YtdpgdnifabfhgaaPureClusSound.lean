/- What is behind a value may be, and knows the value's kind; behind nothing nothing ends. No condition. -/
import Derived.Test.YtdpgdnifabfhgaaG25
import Derived.Test.YtdpgdnifabfhgaaG16
import Derived.Test.YtdpgdnifabfhgaaClus
namespace Go.Proofs.Ytdpgdnifabfhgaa.Pure
open Go.RowKit Go.Proofs.Ytdpgdnifabfhgaa.G Go.Proofs.YtdpgdnifabfhgaaW.PrintWords Go.Proofs.YtdpgdnifabfhgaaW.PrintLast

theorem sane_next_fin' : ∀ g : Fin 15, ∀ p o : Bool, ∀ q : Bool, saneC ⟨true, (g.val : Int), if (g.val : Int) = 14 then true else if (g.val : Int) = 4 ∨ (g.val : Int) = 5 then p && q else false, if (g.val : Int) = 6 then o else false⟩ = true := by decide +kernel
theorem sane_next' (s : CS) (g : Int) (h0 : 0 ≤ g) (h1 : g ≤ 14) : saneC (nextK s g) = true := by
  have := sane_next_fin' ⟨g.toNat, by omega⟩ (if saneC s then s else c0).pict (!(if saneC s then s else c0).odd) ((if saneC s then s else c0).kind != 5)
  simp only [Int.toNat_of_nonneg h0] at this
  exact this
theorem awake11s : pentroughlaw11_awake.f 100 = some true := by decide +kernel
theorem sane_c0 : clus_Sane.f 100 false 0 false false = some true := by decide +kernel

theorem ClusSound (a0 : Bool) (a1 : Int) (a2 a3 : Bool) (r : Int) : ∃ k, pentroughlaw11_ClusSound.f k a0 a1 a2 a3 r = some true := by
  refine ⟨100, ?_⟩
  unfold pentroughlaw11_ClusSound.f pentroughlaw11_ours.f
  rw [awake11s]
  simp only [Option.bind_some, if_true]
  have hn := next_is ⟨a0, a1, a2, a3⟩ r
  simp only at hn
  rw [hn]
  simp only [Option.bind_some, tup]
  rw [sane_is 100 (nextS ⟨a0, a1, a2, a3⟩ r) (by decide)]
  obtain ⟨g0, g1⟩ := gcb_range r
  have hs : saneC (nextS ⟨a0, a1, a2, a3⟩ r) = true := sane_next' _ _ g0 g1
  have ho : (nextS ⟨a0, a1, a2, a3⟩ r).on = true := rfl
  have hk : (nextS ⟨a0, a1, a2, a3⟩ r).kind = gcb r := rfl
  simp only [Option.bind_some, hs, if_true, ho, hk]
  rw [Gcb_is 100 r (by decide), sane_c0]
  simp only [Option.bind_some, if_true]
  have he := ends_is 100 c0 r (by decide)
  simp only [c0] at he
  rw [he]
  simp [endsS, endsK]

end Go.Proofs.Ytdpgdnifabfhgaa.Pure
