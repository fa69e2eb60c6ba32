/- What package clus comes to, plainly: states, where values end, what is behind a value, cuts. No condition. -/
import Derived.Test.YtcabijajjceghaaHNext
import Derived.Test.YtcabijajjceghaaG33
import Derived.Test.YtcabijajjceghaaG23
namespace Go.Proofs.Ytcabijajjceghaa.G
open Go.RowKit Go.Proofs.YtcabijajjceghaaW.PrintWords Go.Proofs.YtcabijajjceghaaW.PrintLast Go.Proofs.YtcabijajjceghaaW.PrintMore
set_option linter.unusedVariables false
set_option linter.unusedSimpArgs false

theorem ends_fin : ∀ a : Fin 15, ∀ g : Fin 15, ∀ p o : Bool, clus_Ends.j0 20 (g.val : Int) false true (a.val : Int) p o = some (endsC (a.val : Int) p o (g.val : Int)) := by decide +kernel
theorem ends_20 (s : CS) (r : Int) : clus_Ends.f 20 s.on s.kind s.pict s.odd r = some (endsS s r) := by
  unfold clus_Ends.f
  rw [Gcb_is 20 r (by decide), sane_is 20 s (by decide)]
  simp only [Option.bind_some]
  unfold endsS endsK
  cases hs : saneC s with
  | false =>
    simp only [clus_Ends.j0, Bool.false_eq_true, if_false, if_true, Bool.false_and]
  | true =>
    cases hon : s.on with
    | false => simp only [clus_Ends.j0, Bool.not_false, if_true, Bool.and_false, Bool.false_and]
    | true =>
      obtain ⟨h0, h1⟩ := sane_kind s hs hon
      obtain ⟨g0, g1⟩ := gcb_range r
      have := ends_fin ⟨s.kind.toNat, by omega⟩ ⟨(gcb r).toNat, by omega⟩ s.pict s.odd
      simp only [Int.toNat_of_nonneg h0, Int.toNat_of_nonneg g0] at this
      simpa using this
theorem ends_is (k : Nat) (s : CS) (r : Int) (hk : 20 ≤ k) : clus_Ends.f k s.on s.kind s.pict s.odd r = some (endsS s r) :=
  at_rounds (g := fun k => clus_Ends.f k s.on s.kind s.pict s.odd r) (fun k => clus_Ends.mono _ _ _ _ _ k) hk (ends_20 s r)
theorem next_is (s : CS) (r : Int) : clus_Next.f s.on s.kind s.pict s.odd r = some (tup (nextS s r)) := rfl
theorem cuts_loop (l : List Int) (hl : l.length < 140737488355328) : ∀ (d i k : Nat) (s : CS) (acc : List Bool), l.length = i + d → acc.length = i → d + 20 < k →
    clus_Cuts.l0 k acc l (l.length : Int) (i : Int) s.on s.kind s.pict s.odd = some (acc ++ cuts s (l.drop i)) := by
  intro d
  induction d with
  | zero =>
    intro i k s acc hi ha hk
    obtain ⟨k, rfl⟩ : ∃ m, k = m + 1 := ⟨k - 1, by omega⟩
    simp only [clus_Cuts.l0]
    rw [if_neg (by omega), List.drop_of_length_le (by omega)]
    simp [cuts, cutsK]
  | succ d ih =>
    intro i k s acc hi ha hk
    obtain ⟨k, rfl⟩ : ∃ m, k = m + 1 := ⟨k - 1, by omega⟩
    have hlt : i < l.length := by omega
    have hrd : rd l (i : Int) = l[i] := by simp [rd, hlt]
    have hw : wrap64 ((i : Int) + 1) = ((i + 1 : Nat) : Int) := by unfold wrap64; omega
    simp only [clus_Cuts.l0]
    rw [if_pos (by omega), if_pos (by omega), if_pos (by omega), hrd, hw, ends_is k s _ (by omega), next_is s _]
    simp only [Option.bind_some]
    rw [if_pos (by omega)]
    have := ih (i + 1) k (nextS s l[i]) (acc ++ [endsS s l[i]]) (by omega) (by simp [ha]) (by omega)
    simp only [tup]
    rw [this, List.drop_eq_getElem_cons hlt]
    simp only [cuts, List.map_cons, cutsK, endsS, nextS, List.append_assoc, List.singleton_append]
theorem Cuts_is (k : Nat) (l : List Int) (hl : l.length < 140737488355328) (hk : l.length + 20 < k) : clus_Cuts.f k l = some (cuts c0 l) := by
  have := cuts_loop l hl l.length 0 k c0 [] (by omega) rfl (by omega)
  simpa [clus_Cuts.f, c0] using this

theorem sameB_loop (a b : List Bool) (he : a.length = b.length) (hl : a.length < 140737488355328) : ∀ (d i k : Nat), a.length = i + d → d < k →
    pentroughref11_Same.l0 k a b (i : Int) = some (decide (a.drop i = b.drop i)) := by
  intro d
  induction d with
  | zero =>
    intro i k hi hk
    obtain ⟨k, rfl⟩ : ∃ m, k = m + 1 := ⟨k - 1, by omega⟩
    simp only [pentroughref11_Same.l0]
    rw [if_neg (by omega), List.drop_of_length_le (by omega), List.drop_of_length_le (by omega)]
    simp
  | succ d ih =>
    intro i k hi hk
    obtain ⟨k, rfl⟩ : ∃ m, k = m + 1 := ⟨k - 1, by omega⟩
    have ha : i < a.length := by omega
    have hb : i < b.length := by omega
    have h1 : rdOf false a (i : Int) = a[i] := by simp [rdOf, ha]
    have h2 : rdOf false b (i : Int) = b[i] := by simp [rdOf, hb]
    have hw : wrap64 ((i : Int) + 1) = ((i + 1 : Nat) : Int) := by unfold wrap64; omega
    simp only [pentroughref11_Same.l0]
    rw [if_pos (by omega), if_pos (by omega), if_pos (by omega), h1, h2, hw, ih (i + 1) k (by omega) (by omega), List.drop_eq_getElem_cons ha, List.drop_eq_getElem_cons hb]
    by_cases e : a[i] = b[i]
    · rw [e]; simp only [List.cons.injEq, true_and, bne_self_eq_false, Bool.false_eq_true, if_false]
    · have : (a[i] != b[i]) = true := bne_iff_ne.mpr e
      rw [this, if_pos rfl, decide_eq_false (fun h => e (List.cons.inj h).1)]
theorem SameB_is (k : Nat) (a b : List Bool) (hl : a.length < 140737488355328) (hk : a.length < k) : pentroughref11_Same.f k a b = some (decide (a = b)) := by
  unfold pentroughref11_Same.f
  by_cases he : a.length = b.length
  · have := sameB_loop a b he hl a.length 0 k (by omega) hk
    rw [if_pos (by omega)]
    simpa using this
  · rw [if_neg (by omega), decide_eq_false (fun e => he (by rw [e]))]
theorem cutsK_length (l : List Int) : ∀ s, (cutsK s l).length = l.length := by
  induction l with
  | nil => intro s; rfl
  | cons g t ih => intro s; simp [cutsK, ih]
theorem cuts_length (s : CS) (l : List Int) : (cuts s l).length = l.length := by simp [cuts, cutsK_length]
theorem cutsK_append (a b : List Int) : ∀ s, cutsK s (a ++ b) = cutsK s a ++ cutsK (runK s a) b := by
  induction a with
  | nil => intro s; rfl
  | cons g t ih => intro s; simp [cutsK, runK, ih]
end Go.Proofs.Ytcabijajjceghaa.G
