/- Plain facts on the three tables of package prop, and what its functions and the reference's come to: no condition. -/
import Derived.Test.YtdpgdnifabfhgaaG3
import Derived.Test.YtdpgdnifabfhgaaG3
import Derived.Test.YtdpgdnifabfhgaaG3
import Derived.Test.YtdpgdnifabfhgaaG4
import Derived.Test.YtdpgdnifabfhgaaG5
import Derived.Test.YtdpgdnifabfhgaaG5
import Derived.Test.YtdpgdnifabfhgaaG5
import Derived.Test.YtdpgdnifabfhgaaG6
namespace Go.Proofs.Ytdpgdnifabfhgaa.G
open Go.RowKit Go.Proofs.YtdpgdnifabfhgaaW.PrintWords Go.Proofs.YtdpgdnifabfhgaaW.PrintLast Go.Proofs.YtdpgdnifabfhgaaW.PrintMore
set_option linter.unusedVariables false
set_option linter.unusedSimpArgs false

theorem and_mask (i : Nat) (hi : i ≤ 62) (x : Int) : bits .and .i64 x (2 ^ i - 1) = x % 2 ^ i := by
  have hpos : 0 < 2 ^ i := Nat.two_pow_pos i
  have hle : 2 ^ i ≤ 2 ^ 62 := Nat.pow_le_pow_right (by decide) hi
  have hc : ((2 : Int) ^ i - 1) = ((2 ^ i - 1 : Nat) : Int) := by rw [Int.natCast_sub hpos]; simp
  have hm : (2 ^ i - 1) % 2 ^ 64 = 2 ^ i - 1 := Nat.mod_eq_of_lt (by omega)
  have hd : (2 : Nat) ^ i ∣ 2 ^ 64 := Nat.pow_dvd_pow 2 (by omega)
  have hb : IntKind.bits .i64 = 64 := rfl
  rw [hc]
  unfold bits
  simp only [hb, BitVec.toNat_and, BitVec.toNat_ofInt, BitVec.ofInt_natCast, BitVec.toNat_ofNat, hm, Nat.and_two_pow_sub_one_eq_mod]
  have h0 : 0 ≤ x % ((2 ^ 64 : Nat) : Int) := Int.emod_nonneg _ (by decide)
  have hx : (((x % ((2 ^ 64 : Nat) : Int)).toNat % 2 ^ i : Nat) : Int) = x % 2 ^ i := by
    rw [Int.natCast_emod, Int.toNat_of_nonneg h0]
    have : ((2 ^ i : Nat) : Int) ∣ ((2 ^ 64 : Nat) : Int) := by exact_mod_cast hd
    rw [Int.emod_emod_of_dvd _ this]
    simp
  rw [hx, IntKind.wrap_i64]
  have h1 : 0 ≤ x % 2 ^ i := Int.emod_nonneg _ (by have : (0 : Int) < 2 ^ i := by exact_mod_cast hpos
                                                   omega)
  have h2 : x % 2 ^ i < 2 ^ i := Int.emod_lt_of_pos _ (by exact_mod_cast hpos)
  have h3 : (2 : Int) ^ i ≤ 2 ^ 62 := by exact_mod_cast hle
  omega

def tC : List S46 := (prop_classes.f).getD []
def tK : List S46 := (prop_kinds.f).getD []
def tD : List S46 := (prop_dropped.f).getD []
def look (l : List S46) (r : Int) : Int := match l.find? (hitB r) with | some x => x.f2 | none => 0
def ccc (r : Int) : Int := look tC r
def drops (r : Int) : Bool := (tD.find? (hitB r)).isSome
def gcb (r : Int) : Int := if 44032 ≤ r ∧ r ≤ 55203 then (if (r - 44032) % 28 = 0 then 12 else 13) else look tK r
def isMk (r : Int) : Bool := decide (ccc r > 0)

theorem tC_ok : okB tC = true ∧ tC.length ≤ 1000 := by decide +kernel
theorem tK_ok : okB tK = true ∧ tK.length ≤ 1000 := by decide +kernel
theorem tD_ok : okB tD = true ∧ tD.length ≤ 1000 := by decide +kernel
theorem in_look {l : List S46} (h : okB l = true ∧ l.length ≤ 1000) (r : Int) : ∃ a b, prop_in.f l r = some (a, b, look l r, (l.find? (hitB r)).isSome) := by
  unfold prop_in.f look
  rw [if_pos (by simp [h.1, h.2])]
  cases l.find? (hitB r) with
  | none => exact ⟨_, _, rfl⟩
  | some x => exact ⟨_, _, rfl⟩
theorem Ccc_is (r : Int) : prop_Ccc.f r = some (ccc r) := by
  obtain ⟨a, b, h⟩ := in_look tC_ok r
  have hc : prop_classes.f = some tC := rfl
  unfold prop_Ccc.f
  rw [hc]; simp only [Option.bind_some]; rw [h]; rfl
theorem Mark_is (r : Int) : prop_Mark.f r = some (isMk r) := by
  unfold prop_Mark.f
  rw [Ccc_is]; rfl
theorem Drops_is (r : Int) : prop_Drops.f r = some (drops r) := by
  obtain ⟨a, b, h⟩ := in_look tD_ok r
  have hc : prop_dropped.f = some tD := rfl
  unfold prop_Drops.f
  rw [hc]; simp only [Option.bind_some]; rw [h]; rfl
theorem syl_mod (r : Int) (h : 44032 ≤ r ∧ r ≤ 55203) : Int.tmod (wrap64 (r - 44032)) 28 = (r - 44032) % 28 := by
  have : wrap64 (r - 44032) = r - 44032 := by unfold wrap64; omega
  rw [this, Int.tmod_eq_emod_of_nonneg (by omega)]
theorem Gcb_is (k : Nat) (r : Int) (hk : 1 ≤ k) : prop_Gcb.f k r = some (gcb r) := by
  obtain ⟨k, rfl⟩ : ∃ m, k = m + 1 := ⟨k - 1, by omega⟩
  obtain ⟨a, b, h⟩ := in_look tK_ok r
  have hc : prop_kinds.f = some tK := rfl
  unfold prop_Gcb.f gcb
  by_cases h1 : r < 44032
  · rw [if_pos h1, if_neg (by omega)]
    simp only [prop_Gcb.j0]
    rw [hc]; simp only [Option.bind_some, if_true]; rw [h]; rfl
  · rw [if_neg h1]
    by_cases h2 : r > 55203
    · rw [if_neg (by omega)]
      simp only [prop_Gcb.j0, decide_eq_true h2]
      rw [hc]; simp only [Option.bind_some, if_true]; rw [h]; rfl
    · rw [if_pos (by omega)]
      simp only [prop_Gcb.j0, decide_eq_false h2]
      rw [syl_mod r (by omega)]
      by_cases h3 : (r - 44032) % 28 = 0 <;> simp [h3]

/-! The reference's -/
def hitB' (r : Int) (x : S59) : Bool := decide (x.f0 ≤ r) && decide (r ≤ x.f1)
def asS (x : S59) : S46 := ⟨x.f0, x.f1, x.f2⟩
theorem find_loop (l : List S59) (r : Int) (hl : l.length ≤ 1000) : ∀ (d : Nat) (i : Nat) (k : Nat), l.length = i + d → d < k →
    pentroughref03_find.l0 k l r i = some (match ((l.drop i).map asS).find? (hitB r) with | some x => (x.f2, true) | none => (0, false)) := by
  intro d
  induction d with
  | zero =>
    intro i k hi hk
    obtain ⟨k, rfl⟩ : ∃ m, k = m + 1 := ⟨k - 1, by omega⟩
    simp only [pentroughref03_find.l0]
    rw [if_neg (by omega), List.drop_of_length_le (by omega)]; rfl
  | succ d ih =>
    intro i k hi hk
    obtain ⟨k, rfl⟩ : ∃ m, k = m + 1 := ⟨k - 1, by omega⟩
    have hlt : i < l.length := by omega
    have hrd : rd_T59 l (i : Int) = l[i] := by simp [rd_T59, hlt]
    have hw : wrap64 ((i : Int) + 1) = ((i + 1 : Nat) : Int) := by unfold wrap64; omega
    simp only [pentroughref03_find.l0]
    rw [if_pos (by omega), if_pos (by omega), hrd, hw, ih (i + 1) k (by omega) (by omega), List.drop_eq_getElem_cons hlt, List.map_cons, List.find?_cons]
    by_cases h1 : r ≥ l[i].f0
    · by_cases h2 : r ≤ l[i].f1
      · have : hitB r (asS l[i]) = true := by simp only [hitB, asS, Bool.and_eq_true, decide_eq_true_eq]; exact ⟨decide_eq_true h1, decide_eq_true h2⟩
        rw [if_pos h1, if_pos h2, this]; rfl
      · have : hitB r (asS l[i]) = false := by simp only [hitB, asS, Bool.and_eq_false_iff, decide_eq_false_iff_not]; exact .inr (decide_eq_false h2)
        rw [if_pos h1, if_neg h2, this]
    · have : hitB r (asS l[i]) = false := by simp only [hitB, asS, Bool.and_eq_false_iff, decide_eq_false_iff_not]; exact .inl (decide_eq_false h1)
      rw [if_neg h1, this]
def uC : List S59 := (pentroughref03_classes.f).getD []
def uK : List S59 := (pentroughref03_kinds.f).getD []
def uD : List S59 := (pentroughref03_dropped.f).getD []
theorem uC_is : uC.map asS = tC := rfl
theorem uK_is : uK.map asS = tK := rfl
theorem uD_is : uD.map asS = tD := rfl
theorem find_is {l : List S59} {t : List S46} (e : l.map asS = t) (r : Int) (k : Nat) (h1 : l.length ≤ 60) (hk : 61 ≤ k) : pentroughref03_find.f k l r = some (look t r, (t.find? (hitB r)).isSome) := by
  have := find_loop l r (by omega) l.length 0 k (by omega) (by omega)
  unfold pentroughref03_find.f look
  rw [show (0 : Int) = ((0 : Nat) : Int) from rfl, this, List.drop_zero, e]
  cases t.find? (hitB r) <;> rfl
theorem rCcc_is (k : Nat) (r : Int) (hk : 61 ≤ k) : pentroughref03_Ccc.f k r = some (ccc r) := by
  have hc : pentroughref03_classes.f = some uC := rfl
  unfold pentroughref03_Ccc.f
  rw [hc]; simp only [Option.bind_some]; rw [find_is uC_is r k (by decide) hk]; rfl
theorem rMark_is (k : Nat) (r : Int) (hk : 61 ≤ k) : pentroughref03_Mark.f k r = some (isMk r) := by
  unfold pentroughref03_Mark.f
  rw [rCcc_is k r hk]; rfl
theorem rDrops_is (k : Nat) (r : Int) (hk : 61 ≤ k) : pentroughref03_Drops.f k r = some (drops r) := by
  have hc : pentroughref03_dropped.f = some uD := rfl
  unfold pentroughref03_Drops.f
  rw [hc]; simp only [Option.bind_some]; rw [find_is uD_is r k (by decide) hk]; rfl
theorem rGcb_is (k : Nat) (r : Int) (hk : 62 ≤ k) : pentroughref03_Gcb.f k r = some (gcb r) := by
  obtain ⟨k, rfl⟩ : ∃ m, k = m + 1 := ⟨k - 1, by omega⟩
  have hc : pentroughref03_kinds.f = some uK := rfl
  unfold pentroughref03_Gcb.f gcb
  by_cases h : 44032 ≤ r ∧ r ≤ 55203
  · rw [if_pos h, if_pos (by omega), decide_eq_true h.2]
    simp only [pentroughref03_Gcb.j0, if_true]
    rw [syl_mod r h]
    by_cases h3 : (r - 44032) % 28 = 0 <;> simp [h3]
  · rw [if_neg h]
    have e : (if r ≥ 44032 then pentroughref03_Gcb.j0 (k + 1) r (decide (r ≤ 55203)) else pentroughref03_Gcb.j0 (k + 1) r false) = pentroughref03_Gcb.j0 (k + 1) r false := by
      split
      · rw [decide_eq_false (by omega)]
      · rfl
    rw [e]
    simp only [pentroughref03_Gcb.j0]
    rw [hc]; simp only [Option.bind_some, Bool.false_eq_true, if_false]; rw [find_is uK_is r k (by decide) (by omega)]; rfl

/-! Any number stands for one of few -/
theorem rep_mem {m y b : Int} {B : List Int} (h : b ∈ m :: B) : b ∈ m :: y :: B := by
  rcases List.mem_cons.1 h with h | h
  · exact List.mem_cons.2 (.inl h)
  · exact List.mem_cons_of_mem _ (List.mem_cons_of_mem _ h)
theorem rep (m : Int) : ∀ (B : List Int), (∀ x ∈ B, m < x) → ∀ r : Int, ∃ b, b ∈ m :: B ∧ ∀ x ∈ B, (x ≤ r ↔ x ≤ b)
  | [], _, r => ⟨m, by simp, by simp⟩
  | y :: B, h, r => by
    obtain ⟨b, hb, h1⟩ := rep m B (fun x hx => h x (by simp [hx])) r
    by_cases hy : y ≤ r
    · by_cases hyb : y ≤ b
      · refine ⟨b, rep_mem hb, fun x hx => ?_⟩
        rcases List.mem_cons.1 hx with rfl | hx
        · exact ⟨fun _ => hyb, fun _ => hy⟩
        · exact h1 x hx
      · refine ⟨y, by simp, fun x hx => ?_⟩
        rcases List.mem_cons.1 hx with rfl | hx
        · exact ⟨fun _ => Int.le_refl _, fun _ => hy⟩
        · have := h1 x hx
          constructor
          · intro a; have := this.1 a; omega
          · intro a; omega
    · refine ⟨b, rep_mem hb, fun x hx => ?_⟩
      rcases List.mem_cons.1 hx with rfl | hx
      · constructor
        · intro a; omega
        · intro a
          exfalso
          rcases List.mem_cons.1 hb with rfl | hb
          · have := h x (by simp); omega
          · have := (h1 b hb).2 (Int.le_refl _); omega
      · exact h1 x hx
def edges (l : List S46) : List Int := l.flatMap fun x => [x.f0, x.f1 + 1]
theorem hit_rep {l : List S46} {B : List Int} {r b : Int} (hB : ∀ x ∈ edges l, x ∈ B) (h : ∀ x ∈ B, (x ≤ r ↔ x ≤ b)) : l.find? (hitB r) = l.find? (hitB b) := by
  induction l with
  | nil => rfl
  | cons x l ih =>
    have h0 := h x.f0 (hB _ (by simp [edges]))
    have h1 := h (x.f1 + 1) (hB _ (by simp [edges]))
    have e : hitB r x = hitB b x := by
      unfold hitB
      have a1 : decide (x.f0 ≤ r) = decide (x.f0 ≤ b) := by simp [h0]
      have a2 : decide (r ≤ x.f1) = decide (b ≤ x.f1) := by
        have : (r ≤ x.f1) ↔ (b ≤ x.f1) := by constructor <;> intro _ <;> omega
        simp [this]
      rw [a1, a2]
    rw [List.find?_cons, List.find?_cons, e, ih (fun y hy => hB y (by rw [edges, List.flatMap_cons]; exact List.mem_append_right _ hy))]
def allB : List Int := [0, 44032, 55204, 55296, 57344, 1114112] ++ edges tC ++ edges tK ++ edges tD
/-- Whatever holds of class, kind by the table, dropped, syllable or not, scalar or not, at few numbers holds at all. -/
theorem few (P : Int → Int → Bool → Prop) (Q : Int → Prop) (h : ∀ b ∈ (-1 : Int) :: allB, Q b → P (ccc b) (look tK b) (drops b)) (r : Int)
    (hq : ∀ b, (∀ x ∈ ([0, 44032, 55204, 55296, 57344, 1114112] : List Int), (x ≤ r ↔ x ≤ b)) → Q b) : P (ccc r) (look tK r) (drops r) := by
  obtain ⟨b, hb, h1⟩ := rep (-1) allB (by decide +kernel) r
  have e1 : ccc r = ccc b := by unfold ccc look; rw [hit_rep (fun x hx => by simp [allB]; simp_all) h1]
  have e2 : look tK r = look tK b := by unfold look; rw [hit_rep (fun x hx => by simp [allB]; simp_all) h1]
  have e3 : drops r = drops b := by unfold drops; rw [hit_rep (fun x hx => by simp [allB]; simp_all) h1]
  rw [e1, e2, e3]
  exact h b hb (hq b fun x hx => h1 x (by simp only [allB, List.append_assoc]; exact List.mem_append_left _ hx))
def goodB (r : Int) : Bool := decide (0 ≤ r) && decide (r ≤ 1114111) && (decide (r < 55296) || decide (57343 < r))
def boundsB (b : Int) : Bool := (goodB b || (ccc b == 0 && look tK b == 0 && !drops b)) && decide (0 ≤ ccc b) && decide (ccc b ≤ 240) && decide (0 ≤ look tK b) && decide (look tK b ≤ 14) && (ccc b == 0 || (look tK b == 4 && !(decide (44032 ≤ b) && decide (b < 55204))))
theorem bounds_all : ∀ b ∈ (-1 : Int) :: allB, boundsB b = true := by decide +kernel

theorem bounds_at (r : Int) : (goodB r = false → ccc r = 0 ∧ gcb r = 0 ∧ drops r = false) ∧ 0 ≤ ccc r ∧ ccc r ≤ 240 ∧ 0 ≤ gcb r ∧ gcb r ≤ 14 ∧ (ccc r = 0 ∨ gcb r = 4) := by
  have h := few (fun c k d => (goodB r = false → c = 0 ∧ k = 0 ∧ d = false) ∧ 0 ≤ c ∧ c ≤ 240 ∧ 0 ≤ k ∧ k ≤ 14 ∧ (c = 0 ∨ (k = 4 ∧ ¬ (44032 ≤ r ∧ r ≤ 55203))))
    (fun b => goodB b = goodB r ∧ ((44032 ≤ b ∧ b < 55204) ↔ (44032 ≤ r ∧ r < 55204)))
    (fun b hb hq => by
      have := bounds_all b hb
      simp only [boundsB, Bool.and_eq_true, Bool.or_eq_true, decide_eq_true_eq, beq_iff_eq, Bool.not_eq_true', Bool.and_eq_false_iff, decide_eq_false_iff_not] at this
      obtain ⟨⟨⟨⟨⟨a1, a2⟩, a3⟩, a4⟩, a5⟩, a6⟩ := this
      refine ⟨fun hg => ?_, a2, a3, a4, a5, ?_⟩
      · rw [hq.1, hg] at a1
        simp at a1
        exact ⟨a1.1.1, a1.1.2, a1.2⟩
      · rcases a6 with a6 | a6
        · exact .inl a6
        · exact .inr ⟨a6.1, by omega⟩) r
    (fun b (hb : ∀ x ∈ ([0, 44032, 55204, 55296, 57344, 1114112] : List Int), (x ≤ r ↔ x ≤ b)) => by
      have h0 := hb 0 (by simp)
      have h1 := hb 44032 (by simp)
      have h2 := hb 55204 (by simp)
      have h3 := hb 55296 (by simp)
      have h4 := hb 57344 (by simp)
      have h5 := hb 1114112 (by simp)
      refine ⟨?_, by omega⟩
      have e0 : decide (0 ≤ b) = decide (0 ≤ r) := decide_eq_decide.2 (by omega)
      have e1 : decide (b ≤ 1114111) = decide (r ≤ 1114111) := decide_eq_decide.2 (by omega)
      have e2 : decide (b < 55296) = decide (r < 55296) := decide_eq_decide.2 (by omega)
      have e3 : decide (57343 < b) = decide (57343 < r) := decide_eq_decide.2 (by omega)
      unfold goodB
      rw [e0, e1, e2, e3])
  obtain ⟨h1, h2, h3, h4, h5, h6⟩ := h
  by_cases hs : 44032 ≤ r ∧ r ≤ 55203
  · have hg : goodB r = true := by simp [goodB]; omega
    have hv : gcb r = 12 ∨ gcb r = 13 := by unfold gcb; rw [if_pos hs]; split <;> simp
    refine ⟨fun h => absurd (hg.symm.trans h) (by decide), h2, h3, by omega, by omega, ?_⟩
    rcases h6 with h6 | h6
    · exact .inl h6
    · exact absurd hs h6.2
  · have e : gcb r = look tK r := by unfold gcb; rw [if_neg hs]
    rw [e]
    refine ⟨h1, h2, h3, h4, h5, ?_⟩
    rcases h6 with h6 | h6
    · exact .inl h6
    · exact .inr h6.1

theorem look_at {l : List S46} (ok : okB l = true) (i : Nat) (x : S46) (hx : l[i]? = some x) (r : Int) (h0 : x.f0 ≤ r) (h1 : r ≤ x.f1) : look l r = x.f2 := by
  obtain ⟨hi, rfl⟩ := List.getElem?_eq_some_iff.1 hx
  unfold look
  rw [find_at l i hi (fun t ht h => by
    have := okB_far l ok t i h hi ht
    simp [hitB]; omega) (by simp [hitB]; omega)]
theorem gcb_at (i : Nat) (x : S46) (hx : tK[i]? = some x) (r : Int) (h0 : x.f0 ≤ r) (h1 : r ≤ x.f1) (hs : r < 44032 ∨ 55203 < r) : gcb r = x.f2 := by
  unfold gcb
  rw [if_neg (by omega)]
  exact look_at tK_ok.1 i x hx r h0 h1
end Go.Proofs.Ytdpgdnifabfhgaa.G
