/- Package decomp, plainly: a value's digits as decomp.code has them find the row that the value itself finds. No condition. -/
import Derived.Test.YtocapbnnkfjacaaDoorHCode
namespace Go.Proofs.YtocapbnnkfjacaaDoor.G
open Go Go.Proofs.YtocapbnnkfjacaaDoor.D
set_option linter.unusedVariables false
set_option linter.unusedSimpArgs false

theorem up_ld (d : Nat) (h : d < 16) : Lib.upperB (ld d) = hd d := by
  have : ∀ k : Fin 16, Lib.upperB (ld k.val) = hd k.val := by decide +kernel
  exact this ⟨d, h⟩
theorem hexF_up : ∀ (k n : Nat), ∀ c ∈ (hexF k n).map Lib.upperB, ∃ d, d < 16 ∧ c = hd d
  | 0, n, c, hc => by simp [hexF] at hc
  | k + 1, n, c, hc => by
    rw [hexF] at hc
    split at hc
    · rename_i h
      rw [List.map_singleton, List.mem_singleton] at hc
      exact ⟨n, h, by rw [hc, up_ld n h]⟩
    · rw [List.map_append, List.mem_append, List.map_singleton, List.mem_singleton] at hc
      rcases hc with hc | hc
      · exact hexF_up k _ c hc
      · exact ⟨n % 16, Nat.mod_lt _ (by decide), by rw [hc, up_ld _ (Nat.mod_lt _ (by decide))]⟩
theorem codeL_plain (r : Nat) : ∀ c ∈ codeL r, c ≠ 61 := by
  intro c hc
  unfold codeL at hc
  rw [List.mem_append] at hc
  rcases hc with hc | hc
  · rw [(List.mem_replicate.1 hc).2]; decide
  · obtain ⟨d, hd1, rfl⟩ := hexF_up 16 r c hc
    exact (hd_plain d hd1).2.1
theorem codeL_len (r : Nat) : (codeL r).length ≤ 20 := by
  have := hexF_len 16 r
  unfold codeL
  rw [List.length_append, List.length_replicate, List.length_map]
  omega
theorem hx (k n : Nat) : hexF (k + 1) n = if n < 16 then [ld n] else hexF k (n / 16) ++ [ld (n % 16)] := rfl
theorem codeL_hex4 (r : Nat) (h : r < 65536) : codeL r = hex4 r := by
  have m := fun d => up_ld (d % 16) (Nat.mod_lt _ (by decide))
  have h48 : (48 : UInt8) = hd 0 := by decide
  unfold codeL hex4
  by_cases h1 : r < 16
  · rw [hx 15 r, if_pos h1]
    simp [up_ld r h1, List.replicate, h48, show r / 4096 % 16 = 0 by omega, show r / 256 % 16 = 0 by omega, show r / 16 % 16 = 0 by omega, show r % 16 = r by omega]
  · rw [hx 15 r, if_neg h1]
    by_cases h2 : r / 16 < 16
    · rw [hx 14 (r / 16), if_pos h2]
      simp [up_ld (r / 16) h2, m r, List.replicate, h48, show r / 4096 % 16 = 0 by omega, show r / 256 % 16 = 0 by omega, show r / 16 % 16 = r / 16 by omega]
    · rw [hx 14 (r / 16), if_neg h2]
      by_cases h3 : r / 16 / 16 < 16
      · rw [hx 13 (r / 16 / 16), if_pos h3]
        have e : r / 256 = r / 16 / 16 := by omega
        simp [up_ld (r / 16 / 16) h3, m r, m (r / 16), List.replicate, h48, e, show r / 4096 % 16 = 0 by omega, show r / 16 / 16 % 16 = r / 16 / 16 by omega]
      · rw [hx 13 (r / 16 / 16), if_neg h3, hx 12 (r / 16 / 16 / 16), if_pos (by omega)]
        have e : r / 256 = r / 16 / 16 := by omega
        have e2 : r / 4096 = r / 16 / 16 / 16 := by omega
        simp [up_ld (r / 16 / 16 / 16) (by omega), m r, m (r / 16), m (r / 16 / 16), e, e2, show r / 16 / 16 / 16 % 16 = r / 16 / 16 / 16 by omega]
theorem hexF_ne : ∀ (k n : Nat), 1 ≤ (hexF (k + 1) n).length
  | k, n => by
    rw [hx]
    split <;> simp
theorem codeL_big (r : Nat) (h : 65536 ≤ r) : 5 ≤ (codeL r).length := by
  unfold codeL
  rw [List.length_append, List.length_map]
  rw [hx 15 r, if_neg (by omega), hx 14, if_neg (by omega), hx 13, if_neg (by omega), hx 12, if_neg (by omega)]
  have := hexF_ne 11 (r / 16 / 16 / 16 / 16)
  rw [show 11 + 1 = 12 from rfl] at this
  simp only [List.length_append, List.length_singleton]
  omega
theorem hd_inj (a b : Nat) (ha : a < 16) (hb : b < 16) (h : hd a = hd b) : a = b := by
  have : ∀ x y : Fin 16, hd x.val = hd y.val → x.val = y.val := by decide +kernel
  exact this ⟨a, ha⟩ ⟨b, hb⟩ h
theorem hex4_inj (a b : Nat) (ha : a < 65536) (hb : b < 65536) (h : hex4 a = hex4 b) : a = b := by
  simp only [hex4, List.cons.injEq, and_true] at h
  obtain ⟨h1, h2, h3, h4⟩ := h
  have m := fun n : Nat => Nat.mod_lt n (show 16 > 0 by decide)
  have e1 := hd_inj _ _ (m _) (m _) h1
  have e2 := hd_inj _ _ (m _) (m _) h2
  have e3 := hd_inj _ _ (m _) (m _) h3
  have e4 := hd_inj _ _ (m _) (m _) h4
  omega
theorem find_congr {α : Type} {p q : α → Bool} : ∀ l : List α, (∀ x ∈ l, p x = q x) → l.find? p = l.find? q
  | [], _ => rfl
  | x :: l, h => by
    rw [List.find?_cons, List.find?_cons, h x (by simp), find_congr l (fun y hy => h y (by simp [hy]))]
theorem rows_ok : ∀ p ∈ rowsD, p.1 < 65536 ∧ 1 ≤ p.2.length ∧ p.2.length ≤ 4 ∧ (∀ v ∈ p.2, v < 65536) ∧ (vText p.2).length ≤ 100 := by decide +kernel
theorem find_code (r : Nat) : rowsD.find? (fun p => hex4 p.1 == codeL r) = rowsD.find? (fun p => p.1 == r) := by
  apply find_congr
  intro p hp
  have h1 := (rows_ok p hp).1
  by_cases hr : r < 65536
  · rw [codeL_hex4 r hr]
    by_cases e : p.1 = r
    · simp [e]
    · rw [beq_eq_false_iff_ne.2 e, beq_eq_false_iff_ne]
      exact fun h => e (hex4_inj _ _ h1 hr h)
  · have e : p.1 ≠ r := by omega
    rw [beq_eq_false_iff_ne.2 e, beq_eq_false_iff_ne]
    intro h
    have h5 := codeL_big r (by omega)
    rw [← h] at h5
    simp [hex4] at h5
theorem cut_le (s sep : List UInt8) : (Lib.cut s sep).2.1.length ≤ s.length := by
  unfold Lib.cut
  split
  · show (List.drop _ _).length ≤ _
    rw [List.length_drop]; omega
  · simp
theorem tab_len : (tabT rowsD).length ≤ 100000 := by decide +kernel

/-- What a value is made of. -/
def sylP (s : Nat) : List Int := [4352 + ((s / 588 : Nat) : Int), 4449 + ((s % 588 / 28 : Nat) : Int)] ++ if s % 28 = 0 then [] else [4519 + ((s % 28 : Nat) : Int)]
def fullP (r : Int) : List Int :=
  if r < 0 then [r]
  else if 44032 ≤ r ∧ r ≤ 55203 then sylP (r - 44032).toNat
  else if 65281 ≤ r ∧ r ≤ 65374 then [r - 65248]
  else match rowsD.find? (fun p => p.1 == r.toNat) with
    | some p => p.2.map (fun v : Nat => (v : Int))
    | none => [r]
end Go.Proofs.YtocapbnnkfjacaaDoor.G
