/- Plain facts on the three tables of package prop, and what its functions and the reference's come to: no condition. -/
import Derived.Test.YtcabijajjceghaaG27
import Derived.Test.YtcabijajjceghaaG17
import Derived.Test.YtcabijajjceghaaG18
namespace Go.Proofs.Ytcabijajjceghaa.G
open Go.RowKit Go.Proofs.YtcabijajjceghaaW.PrintWords Go.Proofs.YtcabijajjceghaaW.PrintLast Go.Proofs.YtcabijajjceghaaW.PrintMore
set_option linter.unusedVariables false
set_option linter.unusedSimpArgs false

theorem and_mask (i : Nat) (hi : i ≤ 62) (x : Int) : bits .and .i64 x (2 ^ i - 1) = x % 2 ^ i := by
  have hpos : 0 < 2 ^ i := Nat.two_pow_pos i
  have hle : 2 ^ i ≤ 2 ^ 62 := Nat.pow_le_pow_right (by decide) hi
  have hc : ((2 : Int) ^ i - 1) = ((2 ^ i - 1 : Nat) : Int) := by rw [Int.natCast_sub hpos]; simp
  have hm : (2 ^ i - 1) % 2 ^ 64 = 2 ^ i - 1 := Nat.mod_eq_of_lt (by omega)
  have hd : (2 : Nat) ^ i ∣ 2 ^ 64 := Nat.pow_dvd_pow 2 (by omega)
  have hb : IntKind.bits .i64 = 64 := rfl
  rw [hc]
  unfold bits
  simp only [hb, BitVec.toNat_and, BitVec.toNat_ofInt, BitVec.ofInt_natCast, BitVec.toNat_ofNat, hm, Nat.and_two_pow_sub_one_eq_mod]
  have h0 : 0 ≤ x % ((2 ^ 64 : Nat) : Int) := Int.emod_nonneg _ (by decide)
  have hx : (((x % ((2 ^ 64 : Nat) : Int)).toNat % 2 ^ i : Nat) : Int) = x % 2 ^ i := by
    rw [Int.natCast_emod, Int.toNat_of_nonneg h0]
    have : ((2 ^ i : Nat) : Int) ∣ ((2 ^ 64 : Nat) : Int) := by exact_mod_cast hd
    rw [Int.emod_emod_of_dvd _ this]
    simp
  rw [hx, IntKind.wrap_i64]
  have h1 : 0 ≤ x % 2 ^ i := Int.emod_nonneg _ (by have : (0 : Int) < 2 ^ i := by exact_mod_cast hpos
                                                   omega)
  have h2 : x % 2 ^ i < 2 ^ i := Int.emod_lt_of_pos _ (by exact_mod_cast hpos)
  have h3 : (2 : Int) ^ i ≤ 2 ^ 62 := by exact_mod_cast hle
  omega

def tK : List S102 := (prop_kinds.f).getD []
def look (l : List S102) (r : Int) : Int := match l.find? (hitB r) with | some x => x.f2 | none => 0
def gcb (r : Int) : Int := if 44032 ≤ r ∧ r ≤ 55203 then (if (r - 44032) % 28 = 0 then 12 else 13) else look tK r

theorem tK_ok : okB tK = true ∧ tK.length ≤ 1000 := by decide +kernel
theorem in_look {l : List S102} (h : okB l = true ∧ l.length ≤ 1000) (r : Int) : ∃ a b, prop_in.f l r = some (a, b, look l r, (l.find? (hitB r)).isSome) := by
  unfold prop_in.f look
  rw [if_pos (by simp [h.1, h.2])]
  cases l.find? (hitB r) with
  | none => exact ⟨_, _, rfl⟩
  | some x => exact ⟨_, _, rfl⟩
theorem syl_mod (r : Int) (h : 44032 ≤ r ∧ r ≤ 55203) : Int.tmod (wrap64 (r - 44032)) 28 = (r - 44032) % 28 := by
  have : wrap64 (r - 44032) = r - 44032 := by unfold wrap64; omega
  rw [this, Int.tmod_eq_emod_of_nonneg (by omega)]
theorem Gcb_is (k : Nat) (r : Int) (hk : 1 ≤ k) : prop_Gcb.f k r = some (gcb r) := by
  obtain ⟨k, rfl⟩ : ∃ m, k = m + 1 := ⟨k - 1, by omega⟩
  obtain ⟨a, b, h⟩ := in_look tK_ok r
  have hc : prop_kinds.f = some tK := rfl
  unfold prop_Gcb.f gcb
  by_cases h1 : r < 44032
  · rw [if_pos h1, if_neg (by omega)]
    simp only [prop_Gcb.j0]
    rw [hc]; simp only [Option.bind_some, if_true]; rw [h]; rfl
  · rw [if_neg h1]
    by_cases h2 : r > 55203
    · rw [if_neg (by omega)]
      simp only [prop_Gcb.j0, decide_eq_true h2]
      rw [hc]; simp only [Option.bind_some, if_true]; rw [h]; rfl
    · rw [if_pos (by omega)]
      simp only [prop_Gcb.j0, decide_eq_false h2]
      rw [syl_mod r (by omega)]
      by_cases h3 : (r - 44032) % 28 = 0 <;> simp [h3]

/-! The reference's -/
def hitB' (r : Int) (x : S115) : Bool := decide (x.f0 ≤ r) && decide (r ≤ x.f1)
def asS (x : S115) : S102 := ⟨x.f0, x.f1, x.f2⟩
theorem find_loop (l : List S115) (r : Int) (hl : l.length ≤ 1000) : ∀ (d : Nat) (i : Nat) (k : Nat), l.length = i + d → d < k →
    pentroughref03_find.l0 k l r i = some (match ((l.drop i).map asS).find? (hitB r) with | some x => (x.f2, true) | none => (0, false)) := by
  intro d
  induction d with
  | zero =>
    intro i k hi hk
    obtain ⟨k, rfl⟩ : ∃ m, k = m + 1 := ⟨k - 1, by omega⟩
    simp only [pentroughref03_find.l0]
    rw [if_neg (by omega), List.drop_of_length_le (by omega)]; rfl
  | succ d ih =>
    intro i k hi hk
    obtain ⟨k, rfl⟩ : ∃ m, k = m + 1 := ⟨k - 1, by omega⟩
    have hlt : i < l.length := by omega
    have hrd : rd_T115 l (i : Int) = l[i] := by simp [rd_T115, hlt]
    have hw : wrap64 ((i : Int) + 1) = ((i + 1 : Nat) : Int) := by unfold wrap64; omega
    simp only [pentroughref03_find.l0]
    rw [if_pos (by omega), if_pos (by omega), hrd, hw, ih (i + 1) k (by omega) (by omega), List.drop_eq_getElem_cons hlt, List.map_cons, List.find?_cons]
    by_cases h1 : r ≥ l[i].f0
    · by_cases h2 : r ≤ l[i].f1
      · have : hitB r (asS l[i]) = true := by simp only [hitB, asS, Bool.and_eq_true, decide_eq_true_eq]; exact ⟨decide_eq_true h1, decide_eq_true h2⟩
        rw [if_pos h1, if_pos h2, this]; rfl
      · have : hitB r (asS l[i]) = false := by simp only [hitB, asS, Bool.and_eq_false_iff, decide_eq_false_iff_not]; exact .inr (decide_eq_false h2)
        rw [if_pos h1, if_neg h2, this]
    · have : hitB r (asS l[i]) = false := by simp only [hitB, asS, Bool.and_eq_false_iff, decide_eq_false_iff_not]; exact .inl (decide_eq_false h1)
      rw [if_neg h1, this]
def uK : List S115 := (pentroughref03_kinds.f).getD []
theorem uK_is : uK.map asS = tK := rfl
theorem find_is {l : List S115} {t : List S102} (e : l.map asS = t) (r : Int) (k : Nat) (h1 : l.length ≤ 60) (hk : 61 ≤ k) : pentroughref03_find.f k l r = some (look t r, (t.find? (hitB r)).isSome) := by
  have := find_loop l r (by omega) l.length 0 k (by omega) (by omega)
  unfold pentroughref03_find.f look
  rw [show (0 : Int) = ((0 : Nat) : Int) from rfl, this, List.drop_zero, e]
  cases t.find? (hitB r) <;> rfl
theorem rGcb_is (k : Nat) (r : Int) (hk : 62 ≤ k) : pentroughref03_Gcb.f k r = some (gcb r) := by
  obtain ⟨k, rfl⟩ : ∃ m, k = m + 1 := ⟨k - 1, by omega⟩
  have hc : pentroughref03_kinds.f = some uK := rfl
  unfold pentroughref03_Gcb.f gcb
  by_cases h : 44032 ≤ r ∧ r ≤ 55203
  · rw [if_pos h, if_pos (by omega), decide_eq_true h.2]
    simp only [pentroughref03_Gcb.j0, if_true]
    rw [syl_mod r h]
    by_cases h3 : (r - 44032) % 28 = 0 <;> simp [h3]
  · rw [if_neg h]
    have e : (if r ≥ 44032 then pentroughref03_Gcb.j0 (k + 1) r (decide (r ≤ 55203)) else pentroughref03_Gcb.j0 (k + 1) r false) = pentroughref03_Gcb.j0 (k + 1) r false := by
      split
      · rw [decide_eq_false (by omega)]
      · rfl
    rw [e]
    simp only [pentroughref03_Gcb.j0]
    rw [hc]; simp only [Option.bind_some, Bool.false_eq_true, if_false]; rw [find_is uK_is r k (by decide) (by omega)]; rfl

/-! Any number stands for one of few -/
theorem rep_mem {m y b : Int} {B : List Int} (h : b ∈ m :: B) : b ∈ m :: y :: B := by
  rcases List.mem_cons.1 h with h | h
  · exact List.mem_cons.2 (.inl h)
  · exact List.mem_cons_of_mem _ (List.mem_cons_of_mem _ h)
theorem rep (m : Int) : ∀ (B : List Int), (∀ x ∈ B, m < x) → ∀ r : Int, ∃ b, b ∈ m :: B ∧ ∀ x ∈ B, (x ≤ r ↔ x ≤ b)
  | [], _, r => ⟨m, by simp, by simp⟩
  | y :: B, h, r => by
    obtain ⟨b, hb, h1⟩ := rep m B (fun x hx => h x (by simp [hx])) r
    by_cases hy : y ≤ r
    · by_cases hyb : y ≤ b
      · refine ⟨b, rep_mem hb, fun x hx => ?_⟩
        rcases List.mem_cons.1 hx with rfl | hx
        · exact ⟨fun _ => hyb, fun _ => hy⟩
        · exact h1 x hx
      · refine ⟨y, by simp, fun x hx => ?_⟩
        rcases List.mem_cons.1 hx with rfl | hx
        · exact ⟨fun _ => Int.le_refl _, fun _ => hy⟩
        · have := h1 x hx
          constructor
          · intro a; have := this.1 a; omega
          · intro a; omega
    · refine ⟨b, rep_mem hb, fun x hx => ?_⟩
      rcases List.mem_cons.1 hx with rfl | hx
      · constructor
        · intro a; omega
        · intro a
          exfalso
          rcases List.mem_cons.1 hb with rfl | hb
          · have := h x (by simp); omega
          · have := (h1 b hb).2 (Int.le_refl _); omega
      · exact h1 x hx
def edges (l : List S102) : List Int := l.flatMap fun x => [x.f0, x.f1 + 1]
theorem hit_rep {l : List S102} {B : List Int} {r b : Int} (hB : ∀ x ∈ edges l, x ∈ B) (h : ∀ x ∈ B, (x ≤ r ↔ x ≤ b)) : l.find? (hitB r) = l.find? (hitB b) := by
  induction l with
  | nil => rfl
  | cons x l ih =>
    have h0 := h x.f0 (hB _ (by simp [edges]))
    have h1 := h (x.f1 + 1) (hB _ (by simp [edges]))
    have e : hitB r x = hitB b x := by
      unfold hitB
      have a1 : decide (x.f0 ≤ r) = decide (x.f0 ≤ b) := by simp [h0]
      have a2 : decide (r ≤ x.f1) = decide (b ≤ x.f1) := by
        have : (r ≤ x.f1) ↔ (b ≤ x.f1) := by constructor <;> intro _ <;> omega
        simp [this]
      rw [a1, a2]
    rw [List.find?_cons, List.find?_cons, e, ih (fun y hy => hB y (by rw [edges, List.flatMap_cons]; exact List.mem_append_right _ hy))]
theorem tK_range : ∀ x ∈ tK, 0 ≤ x.f2 ∧ x.f2 ≤ 14 := by decide +kernel
theorem gcb_range (r : Int) : 0 ≤ gcb r ∧ gcb r ≤ 14 := by
  unfold gcb look
  split
  · split <;> omega
  · cases h : tK.find? (hitB r) with
    | none => simp
    | some x => exact tK_range x (List.mem_of_find?_eq_some h)
theorem look_at {l : List S102} (ok : okB l = true) (i : Nat) (x : S102) (hx : l[i]? = some x) (r : Int) (h0 : x.f0 ≤ r) (h1 : r ≤ x.f1) : look l r = x.f2 := by
  obtain ⟨hi, rfl⟩ := List.getElem?_eq_some_iff.1 hx
  unfold look
  rw [find_at l i hi (fun t ht h => by
    have := okB_far l ok t i h hi ht
    simp [hitB]; omega) (by simp [hitB]; omega)]
theorem gcb_at (i : Nat) (x : S102) (hx : tK[i]? = some x) (r : Int) (h0 : x.f0 ≤ r) (h1 : r ≤ x.f1) (hs : r < 44032 ∨ 55203 < r) : gcb r = x.f2 := by
  unfold gcb
  rw [if_neg (by omega)]
  exact look_at tK_ok.1 i x hx r h0 h1
end Go.Proofs.Ytcabijajjceghaa.G
