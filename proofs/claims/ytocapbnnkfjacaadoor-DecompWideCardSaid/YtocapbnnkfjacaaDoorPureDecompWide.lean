/- DecompWide, plainly: the wide letters, what is ASCII, the marks. No condition. -/
import Derived.Test.YtocapbnnkfjacaaDoorG10
import Derived.Test.YtocapbnnkfjacaaDoorHAwake
namespace Go.Proofs.YtocapbnnkfjacaaDoor.Pure
open Go.RowKit Go.Proofs.YtocapbnnkfjacaaDoor.G Go.Proofs.YtocapbnnkfjacaaDoorW.PrintWords Go.Proofs.YtocapbnnkfjacaaDoorW.PrintLast
set_option linter.unusedVariables false
set_option linter.unusedSimpArgs false
open Go.Proofs.YtocapbnnkfjacaaDoor.D

theorem rows_no : ∀ p ∈ rowsD, 160 ≤ p.1 ∧ ¬ (768 ≤ p.1 ∧ p.1 ≤ 831) := by decide +kernel
theorem full_own (n : Nat) (h : n < 44032) (hn : ∀ p ∈ rowsD, p.1 ≠ n) : fullP (n : Int) = [(n : Int)] := by
  have h0 : ¬ (n : Int) < 0 := by omega
  have h1 : ¬ (44032 ≤ (n : Int) ∧ (n : Int) ≤ 55203) := by omega
  have h2 : ¬ (65281 ≤ (n : Int) ∧ (n : Int) ≤ 65374) := by omega
  have hf : rowsD.find? (fun p => p.1 == n) = none := by
    rw [List.find?_eq_none]
    intro p hp
    simpa using hn p hp
  unfold fullP
  rw [if_neg h0, if_neg h1, if_neg h2, Int.toNat_natCast, hf]
theorem full_wide (x : Nat) (h : x < 94) : fullP (65280 + ((x : Int) + 1)) = [32 + ((x : Int) + 1)] := by
  have h0 : ¬ (65280 + ((x : Int) + 1)) < 0 := by omega
  have h1 : ¬ (44032 ≤ (65280 + ((x : Int) + 1)) ∧ (65280 + ((x : Int) + 1)) ≤ 55203) := by omega
  have h2 : (65281 ≤ (65280 + ((x : Int) + 1)) ∧ (65280 + ((x : Int) + 1)) ≤ 65374) := by omega
  have e : 65280 + ((x : Int) + 1) - 65248 = 32 + ((x : Int) + 1) := by omega
  unfold fullP
  rw [if_neg h0, if_neg h1, if_pos h2, e]
theorem full_ascii (x : Nat) (h : x < 94) : fullP (32 + ((x : Int) + 1)) = [32 + ((x : Int) + 1)] := by
  have e : 32 + ((x : Int) + 1) = ((32 + (x + 1) : Nat) : Int) := by omega
  rw [e]
  exact full_own _ (by omega) (fun p hp => by have := (rows_no p hp).1; omega)
theorem full_mark (x : Nat) (h : x < 64) : fullP (768 + (x : Int)) = [768 + (x : Int)] := by
  have e : 768 + (x : Int) = ((768 + x : Nat) : Int) := by omega
  rw [e]
  exact full_own _ (by omega) (fun p hp => by have := (rows_no p hp).2; omega)
theorem mark_true (x : Nat) (h : x < 64) : prop_Mark.f (768 + (x : Int)) = some true := by
  have : ∀ k : Fin 64, prop_Mark.f (768 + (k.val : Int)) = some true := by decide +kernel
  exact this ⟨x, h⟩

theorem DecompWide : pentroughlaw04_DecompWide.Pure := by
  intro a _
  have ea : bits .and .i64 a 65535 = a % 65536 := and_mask 16 (by decide) a
  have eb : bits .and .i64 a 63 = a % 64 := and_mask 6 (by decide) a
  unfold pentroughlaw04_DecompWide.f
  rw [awake_f, ea, eb]
  have ha : 0 ≤ a % 65536 := Int.emod_nonneg _ (by decide)
  rw [Int.tmod_eq_emod_of_nonneg ha]
  obtain ⟨x, hx⟩ : ∃ x : Nat, a % 65536 % 94 = (x : Int) := ⟨(a % 65536 % 94).toNat, by omega⟩
  obtain ⟨y, hy⟩ : ∃ x : Nat, a % 64 = (x : Int) := ⟨(a % 64).toNat, by omega⟩
  rw [hx, hy]
  have x0 : x < 94 := by omega
  have y0 : y < 64 := by omega
  clear ea eb ha hx hy
  have w1 : wrap64 ((x : Int) + 1) = x + 1 := by unfold wrap64; omega
  have w2 : wrap64 (65280 + ((x : Int) + 1)) = 65280 + (x + 1) := by unfold wrap64; omega
  have w3 : wrap64 (32 + ((x : Int) + 1)) = 32 + (x + 1) := by unfold wrap64; omega
  have w4 : wrap64 (768 + (y : Int)) = 768 + y := by unfold wrap64; omega
  simp only [w1, w2, w3, w4]
  clear w1 w2 w3 w4
  have mA : 65280 + ((x : Int) + 1) ≤ 9223372036854775807 := by omega
  have mB : 32 + ((x : Int) + 1) ≤ 9223372036854775807 := by omega
  have mM : 768 + (y : Int) ≤ 9223372036854775807 := by omega
  have fA := full_wide x x0
  have fB := full_ascii x x0
  have fM := full_mark y y0
  have hM := mark_true y y0
  have hne : 32 + ((x : Int) + 1) ≠ 65280 + ((x : Int) + 1) := by omega
  generalize 65280 + ((x : Int) + 1) = A at *
  generalize 32 + ((x : Int) + 1) = B at *
  generalize 768 + (y : Int) = M at *
  have iA := is_f A mA (by rw [fA]; exact Nat.le_refl 1)
  have iB := is_f B mB (by rw [fB]; exact Nat.le_refl 1)
  have r1 : ∀ z : Int, rd [z] 0 = z := fun _ => rfl
  rw [fA, r1] at iA
  rw [fB, r1] at iB
  have jA : decomp_Is.f A = some true := by rw [iA, bne_iff_ne.2 hne]; rfl
  have jB : decomp_Is.f B = some false := by rw [iB, bne_self_eq_false]; rfl
  have gA := full_f A mA
  have gB := full_f B mB
  have gM := full_f M mM
  rw [fA] at gA
  rw [fB] at gB
  rw [fM] at gM
  have l1 : ∀ z : Int, (([z] : List Int).length : Int) = 1 := fun _ => rfl
  have l0 : (0 : Int) < 1 := by decide
  simp only [Option.bind_some, gA, gB, gM, jA, jB, hM, l1, r1, if_true, if_pos l0, beq_self_eq_true]
  simp
end Go.Proofs.YtocapbnnkfjacaaDoor.Pure
