/- DecompOnce, plainly: what something is made of is made of nothing else; the marks' order. No condition. -/
import Derived.Test.YtocapbnnkfjacaaDoorG11
import Derived.Test.YtocapbnnkfjacaaDoorHAwake
namespace Go.Proofs.YtocapbnnkfjacaaDoor.G
open Go.RowKit Go.Proofs.YtocapbnnkfjacaaDoorW.PrintWords Go.Proofs.YtocapbnnkfjacaaDoorW.PrintLast
set_option linter.unusedVariables false
set_option linter.unusedSimpArgs false
open Go.Proofs.YtocapbnnkfjacaaDoor.D

def tC : List S37 := (prop_classes.f).getD []
def ccc (r : Int) : Int := match tC.find? (hitB r) with | some x => x.f2 | none => 0
def isMk (r : Int) : Bool := decide (ccc r > 0)
theorem tC_ok : (okB tC && decide (tC.length ≤ 1000)) = true := by decide +kernel
theorem Ccc_is (r : Int) : prop_Ccc.f r = some (ccc r) := by
  have hc : prop_classes.f = some tC := rfl
  unfold prop_Ccc.f
  rw [hc, Option.bind_some]
  unfold prop_in.f ccc
  rw [if_pos tC_ok]
  cases tC.find? (hitB r) <;> rfl
theorem Mark_is (r : Int) : prop_Mark.f r = some (isMk r) := by
  unfold prop_Mark.f
  rw [Ccc_is]; rfl

theorem full_own (n : Nat) (h : n < 44032) (hn : ∀ p ∈ rowsD, p.1 ≠ n) : fullP (n : Int) = [(n : Int)] := by
  have h0 : ¬ (n : Int) < 0 := by omega
  have h1 : ¬ (44032 ≤ (n : Int) ∧ (n : Int) ≤ 55203) := by omega
  have h2 : ¬ (65281 ≤ (n : Int) ∧ (n : Int) ≤ 65374) := by omega
  have hf : rowsD.find? (fun p => p.1 == n) = none := by
    rw [List.find?_eq_none]
    intro p hp
    simpa using hn p hp
  unfold fullP
  rw [if_neg h0, if_neg h1, if_neg h2, Int.toNat_natCast, hf]

/-- Each part is itself, and marks stand in their order. -/
def Good (l : List Int) : Prop := ∀ i : Nat, i < l.length → fullP (rd l i) = [rd l i] ∧ rd l i ≤ 9223372036854775807 ∧ (0 < i → isMk (rd l ((i : Int) - 1)) = true → isMk (rd l i) = true → ¬ ccc (rd l ((i : Int) - 1)) > ccc (rd l i))
def okRow (vs : List Nat) : Bool :=
  (List.range vs.length).all (fun i => decide (vs.getD i 0 < 44032) && rowsD.all (fun q => q.1 != vs.getD i 0) && (i == 0 || !(isMk (vs.getD (i - 1) 0 : Nat) && isMk (vs.getD i 0 : Nat) && decide (ccc (vs.getD (i - 1) 0 : Nat) > ccc (vs.getD i 0 : Nat))))) && !isMk (vs.getD 0 0 : Nat)
theorem rows_all : (rowsD.all fun p => okRow p.2) = true := by decide +kernel
theorem rd_cast (vs : List Nat) (i : Nat) : rd (vs.map (fun v : Nat => (v : Int))) (i : Int) = ((vs.getD i 0 : Nat) : Int) := by
  unfold rd
  rw [Int.toNat_natCast, List.getD_eq_getElem?_getD, List.getD_eq_getElem?_getD, List.getElem?_map]
  cases vs[i]? <;> rfl
theorem good_row (vs : List Nat) (h : okRow vs = true) : Good (vs.map (fun v : Nat => (v : Int))) ∧ isMk (rd (vs.map (fun v : Nat => (v : Int))) 0) = false := by
  unfold okRow at h
  rw [Bool.and_eq_true, List.all_eq_true] at h
  obtain ⟨h1, h2⟩ := h
  refine ⟨fun i hi => ?_, ?_⟩
  · rw [List.length_map] at hi
    have h := h1 i (List.mem_range.2 hi)
    rw [Bool.and_eq_true, Bool.and_eq_true, decide_eq_true_eq, List.all_eq_true] at h
    obtain ⟨⟨a, b⟩, c⟩ := h
    rw [rd_cast]
    refine ⟨full_own _ a (fun p hp => by simpa using b p hp), by omega, fun h0 => ?_⟩
    have e : ((i : Int) - 1) = ((i - 1 : Nat) : Int) := by omega
    rw [e, rd_cast]
    intro m1 m2 hcc
    have z : (i == 0) = false := beq_eq_false_iff_ne.2 (by omega)
    rw [z, m1, m2, decide_eq_true hcc] at c
    cases c
  · have e : (0 : Int) = ((0 : Nat) : Int) := rfl
    rw [e, rd_cast]
    simpa using h2
theorem good_one (v : Int) (h : fullP v = [v]) (hm : v ≤ 9223372036854775807) : Good [v] := by
  intro i hi
  have : i = 0 := by simp at hi; omega
  subst this
  exact ⟨h, hm, fun h => absurd h (by omega)⟩
theorem rows_no : ∀ p ∈ rowsD, 160 ≤ p.1 ∧ ¬ (4352 ≤ p.1 ∧ p.1 ≤ 4607) := by decide +kernel
theorem low_no (x : Nat) (h : x < 127) : isMk (x : Int) = false := by
  have : ∀ k : Fin 127, isMk (k.val : Int) = false := by decide +kernel
  exact this ⟨x, h⟩
theorem jamo_no (x : Nat) (h : x < 256) : isMk ((4352 + x : Nat) : Int) = false := by
  have : ∀ k : Fin 256, isMk ((4352 + k.val : Nat) : Int) = false := by decide +kernel
  exact this ⟨x, h⟩
theorem jamo_own (x : Nat) (h : x < 256) : fullP ((4352 + x : Nat) : Int) = [((4352 + x : Nat) : Int)] := full_own _ (by omega) (fun p hp => by have := (rows_no p hp).2; omega)
theorem good_jamo (l : List Int) (h : ∀ v ∈ l, ∃ x : Nat, x < 256 ∧ v = ((4352 + x : Nat) : Int)) : Good l := by
  intro i hi
  have at_ : ∀ j : Nat, j < l.length → ∃ x : Nat, x < 256 ∧ rd l (j : Int) = ((4352 + x : Nat) : Int) := fun j hj => by
    have : rd l (j : Int) = l[j] := by unfold rd; rw [Int.toNat_natCast]; simp [hj]
    rw [this]
    exact h _ (List.getElem_mem hj)
  obtain ⟨x, hx, e⟩ := at_ i hi
  rw [e]
  refine ⟨jamo_own x hx, by omega, fun h0 => ?_⟩
  have e1 : ((i : Int) - 1) = ((i - 1 : Nat) : Int) := by omega
  obtain ⟨y, hy, e2⟩ := at_ (i - 1) (by omega)
  rw [e1, e2, jamo_no y hy]
  intro h
  cases h
theorem good_full (r : Int) (hmax : r ≤ 9223372036854775807) : Good (fullP r) ∧ (((fullP r).length > 1 ∨ rd (fullP r) 0 ≠ r) → isMk (rd (fullP r) 0) = false) := by
  have r1 : ∀ z : Int, rd [z] 0 = z := fun _ => rfl
  have self : fullP r = [r] → Good (fullP r) ∧ (((fullP r).length > 1 ∨ rd (fullP r) 0 ≠ r) → isMk (rd (fullP r) 0) = false) := fun e => by
    refine ⟨by rw [e]; exact good_one r e hmax, fun h => ?_⟩
    rw [e, r1] at h
    rcases h with h | h
    · exact absurd h (by simp)
    · exact absurd rfl h
  by_cases h0 : r < 0
  · exact self (by unfold fullP; rw [if_pos h0])
  by_cases h1 : 44032 ≤ r ∧ r ≤ 55203
  · obtain ⟨s, hs⟩ : ∃ s : Nat, (r - 44032).toNat = s := ⟨_, rfl⟩
    have hs2 : s < 11172 := by omega
    have e : fullP r = sylP s := by unfold fullP; rw [if_neg h0, if_pos h1, hs]
    have b1 : s / 588 < 20 := by omega
    have b2 : s % 588 / 28 < 22 := by omega
    have b3 : s % 28 < 28 := Nat.mod_lt _ (by decide)
    have hj : ∀ v ∈ sylP s, ∃ x : Nat, x < 256 ∧ v = ((4352 + x : Nat) : Int) := fun v hv => by
      unfold sylP at hv
      generalize s / 588 = a at *
      generalize s % 588 / 28 = b at *
      generalize s % 28 = c at *
      rw [List.mem_append] at hv
      rcases hv with hv | hv
      · simp only [List.mem_cons, List.mem_nil_iff, or_false] at hv
        rcases hv with rfl | rfl
        · exact ⟨a, by omega, by omega⟩
        · exact ⟨97 + b, by omega, by omega⟩
      · split at hv
        · simp at hv
        · rw [List.mem_singleton] at hv
          exact ⟨167 + c, by omega, by omega⟩
    rw [e]
    refine ⟨good_jamo _ hj, fun _ => ?_⟩
    have : rd (sylP s) 0 = ((4352 + s / 588 : Nat) : Int) := by
      unfold sylP
      simp [rd]
    rw [this]
    exact jamo_no _ (by omega)
  by_cases h2 : 65281 ≤ r ∧ r ≤ 65374
  · obtain ⟨x, hx⟩ : ∃ x : Nat, r - 65248 = (x : Int) := ⟨(r - 65248).toNat, by omega⟩
    have hx2 : 33 ≤ x ∧ x < 127 := by omega
    have e : fullP r = [(x : Int)] := by unfold fullP; rw [if_neg h0, if_neg h1, if_pos h2, hx]
    rw [e, r1]
    exact ⟨good_one _ (full_own x (by omega) (fun p hp => by have := (rows_no p hp).1; omega)) (by omega), fun _ => low_no x hx2.2⟩
  cases hf : rowsD.find? (fun p => p.1 == r.toNat) with
  | none => exact self (by unfold fullP; rw [if_neg h0, if_neg h1, if_neg h2, hf])
  | some p =>
    have e : fullP r = p.2.map (fun v : Nat => (v : Int)) := by unfold fullP; rw [if_neg h0, if_neg h1, if_neg h2, hf]
    have hp := List.all_eq_true.1 rows_all p (List.mem_of_find?_eq_some hf)
    obtain ⟨g1, g2⟩ := good_row p.2 hp
    rw [e]
    exact ⟨g1, fun _ => g2⟩
theorem once_loop (r : Int) (hmax : r ≤ 9223372036854775807) : ∀ (d i k : Nat), (fullP r).length = i + d → d < k → pentroughlaw04_DecompOnce.l0 k r true (fullP r) (i : Int) = some true := by
  obtain ⟨hg, hm⟩ := good_full r hmax
  have hl := full_ne r
  have hi := is_f r hmax hl.1
  generalize fullP r = l at *
  intro d
  induction d with
  | zero =>
    intro i k h hk
    obtain ⟨k, rfl⟩ : ∃ m, k = m + 1 := ⟨k - 1, by omega⟩
    have c1 : ¬ (i : Int) < (l.length : Int) := by omega
    have c2 : 0 < (l.length : Int) := by omega
    rw [pentroughlaw04_DecompOnce.l0, if_neg c1, if_pos rfl, hi, Option.bind_some, if_pos c2, Mark_is, Option.bind_some]
    by_cases c : l.length > 1 ∨ rd l 0 ≠ r
    · rw [hm c]
      by_cases h1 : l.length > 1
      · rw [decide_eq_true h1]; rfl
      · rw [decide_eq_false h1, bne_iff_ne.2 (c.resolve_left h1)]; rfl
    · have h1 : ¬ l.length > 1 := fun h => c (.inl h)
      have h2 : rd l 0 = r := Classical.byContradiction fun h => c (.inr h)
      rw [decide_eq_false h1, h2, bne_self_eq_false]
      rfl
  | succ d ih =>
    intro i k h hk
    obtain ⟨k, rfl⟩ : ∃ m, k = m + 1 := ⟨k - 1, by omega⟩
    obtain ⟨g1, g2, g3⟩ := hg i (by omega)
    have next := ih (i + 1) k (by omega) (by omega)
    have w1 : wrap64 ((i : Int) + 1) = ((i + 1 : Nat) : Int) := by unfold wrap64; omega
    have c1 : (i : Int) < (l.length : Int) := by omega
    have c2 : 0 ≤ (i : Int) := by omega
    have f1 := full_f _ g2
    have s1 := is_f _ g2 (by rw [g1]; exact Nat.le_refl 1)
    have r1 : ∀ z : Int, rd [z] 0 = z := fun _ => rfl
    rw [g1] at f1
    rw [g1, r1, bne_self_eq_false] at s1
    have s2 : decomp_Is.f (rd l (i : Int)) = some false := s1
    have l1 : (([rd l (i : Int)] : List Int).length : Int) = 1 := rfl
    rw [pentroughlaw04_DecompOnce.l0, if_pos c1, if_pos c2, s2, Option.bind_some, if_neg (by decide), f1, Option.bind_some, l1, if_pos rfl, w1, next]
    by_cases h0 : (i : Int) > 0
    · have w2 : wrap64 ((i : Int) - 1) = (i : Int) - 1 := by unfold wrap64; omega
      have c3 : 0 ≤ (i : Int) - 1 := by omega
      have c4 : (i : Int) - 1 < (l.length : Int) := by omega
      have g4 := g3 (by omega)
      rw [if_pos h0, w2, if_pos c3, if_pos c4, Mark_is, Option.bind_some, Mark_is, Option.bind_some, Ccc_is, Ccc_is, Option.bind_some, Option.bind_some]
      cases m1 : isMk (rd l ((i : Int) - 1)) with
      | false => rfl
      | true =>
        cases m2 : isMk (rd l (i : Int)) with
        | false => rfl
        | true =>
          rw [if_pos rfl, if_pos rfl, if_neg (g4 m1 m2)]
    · rw [if_neg h0]
end Go.Proofs.YtocapbnnkfjacaaDoor.G
namespace Go.Proofs.YtocapbnnkfjacaaDoor.Pure
open Go.RowKit Go.Proofs.YtocapbnnkfjacaaDoor.G Go.Proofs.YtocapbnnkfjacaaDoorW.PrintWords Go.Proofs.YtocapbnnkfjacaaDoorW.PrintLast
theorem DecompOnce : pentroughlaw04_DecompOnce.Pure := by
  intro a hw
  have hr : a ≤ 9223372036854775807 := by
    have e1 : IntKind.i64.min = -9223372036854775808 := rfl
    have e2 : IntKind.i64.max = 9223372036854775807 := rfl
    simp [Lit.wf, e1, e2] at hw
    omega
  refine ⟨11, ?_⟩
  have hl := full_ne a
  have c1 : ¬ ((fullP a).length : Int) < 1 := by omega
  have c2 : ¬ ((fullP a).length : Int) > 4 := by omega
  unfold pentroughlaw04_DecompOnce.f
  rw [awake_f, Option.bind_some, full_f a hr, Option.bind_some, if_neg c1, decide_eq_false c2, pentroughlaw04_DecompOnce.j0, if_neg (by decide)]
  exact once_loop a hr (fullP a).length 0 10 (by omega) (by omega)
end Go.Proofs.YtocapbnnkfjacaaDoor.Pure
