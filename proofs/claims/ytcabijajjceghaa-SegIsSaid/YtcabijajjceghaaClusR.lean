/- What the reference of package clus comes to: the same as the program's. No condition. -/
import Derived.Test.YtcabijajjceghaaClus
import Derived.Test.YtcabijajjceghaaG20
import Derived.Test.YtcabijajjceghaaHRNext
namespace Go.Proofs.Ytcabijajjceghaa.G
open Go.RowKit Go.Proofs.YtcabijajjceghaaW.PrintWords Go.Proofs.YtcabijajjceghaaW.PrintLast Go.Proofs.YtcabijajjceghaaW.PrintMore
set_option linter.unusedVariables false
set_option linter.unusedSimpArgs false

/-! The reference's -/
theorem rends_fin : ∀ a : Fin 15, ∀ g : Fin 15, ∀ p o : Bool, (if (a.val : Int) = 1 then pentroughref11_Ends.j1 20 (g.val : Int) ((g.val : Int) == 2) true (a.val : Int) p o else pentroughref11_Ends.j1 20 (g.val : Int) false true (a.val : Int) p o) = some (endsC (a.val : Int) p o (g.val : Int)) := by decide +kernel
theorem rj1_mono (a b c d e f) (k k' : Nat) (h : k ≤ k') (r : Bool) (e' : pentroughref11_Ends.j1 k a b c d e f = some r) : pentroughref11_Ends.j1 k' a b c d e f = some r :=
  at_rounds (g := fun k => pentroughref11_Ends.j1 k a b c d e f) (fun k => (pentroughref11_Ends.mono_l k).2.1 _ _ _ _ _ _) h e'
theorem rEnds_is (k : Nat) (s : CS) (r : Int) (hk : 90 ≤ k) : pentroughref11_Ends.f k s.on s.kind s.pict s.odd r = some (endsS s r) := by
  obtain ⟨k, rfl⟩ : ∃ m, k = m + 1 := ⟨k - 1, by omega⟩
  unfold pentroughref11_Ends.f
  rw [rSane_is s]
  simp only [Option.bind_some]
  unfold endsS endsK
  cases hs : saneC s with
  | false => simp only [pentroughref11_Ends.j0, Bool.false_eq_true, if_false, if_true, Bool.false_and]
  | true =>
    cases hon : s.on with
    | false => simp only [pentroughref11_Ends.j0, Bool.not_false, if_true, Bool.and_false, Bool.false_and]
    | true =>
      obtain ⟨h0, h1⟩ := sane_kind s hs hon
      obtain ⟨g0, g1⟩ := gcb_range r
      have := rends_fin ⟨s.kind.toNat, by omega⟩ ⟨(gcb r).toNat, by omega⟩ s.pict s.odd
      simp only [Int.toNat_of_nonneg h0, Int.toNat_of_nonneg g0] at this
      simp only [if_true, Bool.not_true, pentroughref11_Ends.j0, Bool.false_eq_true, if_false, Bool.and_self, Bool.true_and]
      rw [rGcb_is k r (by omega)]
      simp only [Option.bind_some]
      by_cases e : s.kind = 1
      · rw [if_pos e] at this ⊢
        exact rj1_mono _ _ _ _ _ _ 20 k (by omega) _ this
      · rw [if_neg e] at this ⊢
        exact rj1_mono _ _ _ _ _ _ 20 k (by omega) _ this
theorem rNext_is (s : CS) (r : Int) : pentroughref11_Next.f s.on s.kind s.pict s.odd r = some (tup (nextS s r)) := rfl
end Go.Proofs.Ytcabijajjceghaa.G
