/- DecompIs, plainly: the program's answer is the document's. No condition. -/
import Derived.Test.YtocapbnnkfjacaaDoorG9
import Derived.Test.YtocapbnnkfjacaaDoorHAwake
import Derived.Test.YtocapbnnkfjacaaDoorHFindP
namespace Go.Proofs.YtocapbnnkfjacaaDoor.G
open Go.RowKit Go.Proofs.YtocapbnnkfjacaaDoorW.PrintWords Go.Proofs.YtocapbnnkfjacaaDoorW.PrintLast
set_option linter.unusedVariables false
set_option linter.unusedSimpArgs false
open Go.Proofs.YtocapbnnkfjacaaDoor.D

theorem same01_loop (a : List Int) (hl : a.length < 140737488355328) : ∀ (d i k : Nat), a.length = i + d → d < k → pentroughref01_Same.l0 k a a (i : Int) = some true := by
  intro d
  induction d with
  | zero =>
    intro i k hi hk
    obtain ⟨k, rfl⟩ : ∃ m, k = m + 1 := ⟨k - 1, by omega⟩
    simp only [pentroughref01_Same.l0]
    rw [if_neg (by omega)]
  | succ d ih =>
    intro i k hi hk
    obtain ⟨k, rfl⟩ : ∃ m, k = m + 1 := ⟨k - 1, by omega⟩
    have hw : wrap64 ((i : Int) + 1) = ((i + 1 : Nat) : Int) := by unfold wrap64; omega
    simp only [pentroughref01_Same.l0]
    rw [if_pos (by omega), if_pos (by omega), if_pos (by omega), hw]
    simp only [if_true]
    exact ih (i + 1) k (by omega) (by omega)
theorem same01 (a : List Int) (k : Nat) (hl : a.length < 140737488355328) (hk : a.length < k) : pentroughref01_Same.f k a a = some true := by
  unfold pentroughref01_Same.f
  rw [if_pos rfl]
  exact same01_loop a hl a.length 0 k (by omega) hk

def KF : Nat := 1 + 2 * (tabR rowsD).length
theorem ref_tail (r : Int) (k : Nat) : ((pentroughref04_table.f).bind fun t => ((pentroughref04_Find.f (k + KF) t r).bind fun bt => (if bt.2 = true then (some bt.1) else (some (([r] : List Int)))))) = some (match rowsD.find? (fun p => decide ((p.1 : Int) = r)) with | some p => p.2.map (fun v : Nat => (v : Int)) | none => [r]) := by
  have h := find_ref r k
  rw [Nat.add_assoc] at h
  unfold KF
  show ((some refB).bind _) = _
  rw [Option.bind_some, h, Option.bind_some]
  cases rowsD.find? (fun p => decide ((p.1 : Int) = r)) <;> rfl
theorem find_neg (r : Int) (h : r < 0) : rowsD.find? (fun p => decide ((p.1 : Int) = r)) = none := by
  rw [List.find?_eq_none]
  intro p hp
  simp
  omega
theorem find_nat (n : Nat) : rowsD.find? (fun p => decide ((p.1 : Int) = (n : Int))) = rowsD.find? (fun p => p.1 == n) := by
  apply find_congr
  intro p hp
  by_cases e : p.1 = n
  · simp [e]
  · rw [beq_eq_false_iff_ne.2 e]
    exact decide_eq_false (by omega)
theorem ref_syl (s : Nat) (hs : s < 11172) : ((some (([wrap64 (4352 + (wrap64 (Int.tdiv (s : Int) 588))), wrap64 (4449 + (wrap64 (Int.tdiv (Int.tmod (s : Int) 588) 28)))] : List Int) : List Int)).bind fun y => (if (Int.tmod (s : Int) 28) = 0 then (some y) else (if y.length < 17592186044416 then (some (y ++ [wrap64 (4519 + (Int.tmod (s : Int) 28))])) else (none)))) = some (sylP s) := by
  have h := syl_f s hs
  unfold decomp_syllable.f at h
  rw [← h]
  rw [Option.bind_some, Option.bind_some]
  have e4 : Int.tmod (s : Int) 28 = ((s % 28 : Nat) : Int) := by rw [Int.tmod_eq_emod_of_nonneg (by omega)]; rfl
  rw [e4]
  by_cases h0 : s % 28 = 0
  · have c1 : ((s % 28 : Nat) : Int) = 0 := by omega
    have c2 : ¬ ((s % 28 : Nat) : Int) > 0 := by omega
    rw [if_pos c1, if_neg c2]
  · have c1 : ¬ ((s % 28 : Nat) : Int) = 0 := by omega
    have c2 : ((s % 28 : Nat) : Int) > 0 := by omega
    rw [if_neg c1, if_pos c2]
theorem ref_full (r : Int) (k : Nat) (hmin : -9223372036854775808 ≤ r) (hmax : r ≤ 9223372036854775807) : pentroughref04_Full.f (k + KF + 1 + 1) r = some (fullP r) := by
  have tail := ref_tail r k
  generalize hK : k + KF = K at *
  unfold pentroughref04_Full.f
  by_cases h1 : 44032 ≤ r ∧ r ≤ 55203
  · obtain ⟨s, rfl⟩ : ∃ s : Nat, r = 44032 + (s : Int) := ⟨(r - 44032).toNat, by omega⟩
    have hs : s < 11172 := by omega
    have w : wrap64 (44032 + (s : Int) - 44032) = (s : Int) := by unfold wrap64; omega
    have hf : fullP (44032 + (s : Int)) = sylP s := by
      unfold fullP
      have n0 : ¬ (44032 + (s : Int)) < 0 := by omega
      have es : (44032 + (s : Int) - 44032).toNat = s := by omega
      rw [if_neg n0, if_pos h1, es]
    rw [if_pos h1.1, decide_eq_true h1.2, pentroughref04_Full.j0, if_pos rfl, w, hf]
    exact ref_syl s hs
  have e0 : (if r ≥ 44032 then (pentroughref04_Full.j0 (K + 1 + 1) r (decide (r ≤ 55203))) else (pentroughref04_Full.j0 (K + 1 + 1) r false)) = pentroughref04_Full.j0 (K + 1 + 1) r false := by
    by_cases c : r ≥ 44032
    · rw [if_pos c, decide_eq_false (by omega)]
    · rw [if_neg c]
  rw [e0, pentroughref04_Full.j0, if_neg (by decide)]
  by_cases h2 : 65281 ≤ r ∧ r ≤ 65374
  · have w : wrap64 (r - 65248) = r - 65248 := by unfold wrap64; omega
    have hf : fullP r = [r - 65248] := by
      unfold fullP
      have n0 : ¬ r < 0 := by omega
      rw [if_neg n0, if_neg h1, if_pos h2]
    rw [if_pos h2.1, decide_eq_true h2.2, pentroughref04_Full.j1, if_pos rfl, w, hf]
  have e1 : (if r ≥ 65281 then (pentroughref04_Full.j1 (K + 1) r (decide (r ≤ 65374))) else (pentroughref04_Full.j1 (K + 1) r false)) = pentroughref04_Full.j1 (K + 1) r false := by
    by_cases c : r ≥ 65281
    · rw [if_pos c, decide_eq_false (by omega)]
    · rw [if_neg c]
  rw [e1, pentroughref04_Full.j1, if_neg (by decide)]
  refine tail.trans (congrArg some ?_)
  unfold fullP
  by_cases h0 : r < 0
  · rw [if_pos h0, find_neg r h0]
  · rw [if_neg h0, if_neg h1, if_neg h2]
    obtain ⟨n, rfl⟩ : ∃ n : Nat, r = (n : Int) := ⟨r.toNat, by omega⟩
    rw [find_nat n, Int.toNat_natCast]
    cases rowsD.find? (fun p => p.1 == n) <;> rfl
theorem ref_is (r : Int) (k : Nat) (hmin : -9223372036854775808 ≤ r) (hmax : r ≤ 9223372036854775807) : pentroughref04_Is.f (k + KF + 1 + 1) r = some (decide ((fullP r).length > 1) || (rd (fullP r) 0 != r)) := by
  have hl := full_ne r
  unfold pentroughref04_Is.f
  rw [ref_full r k hmin hmax, Option.bind_some]
  by_cases h1 : ((fullP r).length : Int) = 1
  · have c1 : 0 < ((fullP r).length : Int) := by omega
    rw [if_pos h1, if_pos c1, decide_eq_false (by omega)]
    rfl
  · rw [if_neg h1, decide_eq_true (by omega)]
    rfl
end Go.Proofs.YtocapbnnkfjacaaDoor.G
namespace Go.Proofs.YtocapbnnkfjacaaDoor.Pure
open Go.RowKit Go.Proofs.YtocapbnnkfjacaaDoor.G Go.Proofs.YtocapbnnkfjacaaDoorW.PrintWords Go.Proofs.YtocapbnnkfjacaaDoorW.PrintLast
theorem DecompIs : pentroughlaw04_DecompIs.Pure := by
  intro a hw
  have hr : -9223372036854775808 ≤ a ∧ a ≤ 9223372036854775807 := by
    have e1 : IntKind.i64.min = -9223372036854775808 := rfl
    have e2 : IntKind.i64.max = 9223372036854775807 := rfl
    simp [Lit.wf, e1, e2] at hw
    omega
  refine ⟨10 + KF + 1 + 1, ?_⟩
  have hl := full_ne a
  unfold pentroughlaw04_DecompIs.f
  rw [awake_f, Option.bind_some, if_pos rfl, full_f a hr.2, Option.bind_some, ref_full a 10 hr.1 hr.2, Option.bind_some, same01 _ _ (by omega) (by omega), Option.bind_some, if_pos rfl, is_f a hr.2 hl.1, Option.bind_some, ref_is a 10 hr.1 hr.2, Option.bind_some, beq_self_eq_true]
end Go.Proofs.YtocapbnnkfjacaaDoor.Pure
