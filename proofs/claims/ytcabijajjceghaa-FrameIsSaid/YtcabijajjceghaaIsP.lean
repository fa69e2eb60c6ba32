/- What the document's answer for frames comes to, plainly: it is the program's own. No condition. -/
import Derived.Test.YtcabijajjceghaaWholeP
import Derived.Test.YtcabijajjceghaaG7
import Derived.Test.YtcabijajjceghaaG8
import Derived.Test.YtcabijajjceghaaG10
import Derived.Test.YtcabijajjceghaaG11
namespace Go.Proofs.Ytcabijajjceghaa.G
open Go.RowKit Go.Proofs.YtcabijajjceghaaW.PrintWords Go.Proofs.YtcabijajjceghaaW.PrintLast Go.Proofs.YtcabijajjceghaaW.PrintMore
set_option linter.unusedVariables false
set_option linter.unusedSimpArgs false

/-! ### the number at the head -/
theorem part_is : ∀ c : Fin 256, ∀ i : Fin 4, part (c.val : Int) i.val = ((c.val % 128 * 128 ^ i.val : Nat) : Int) := by decide +kernel
theorem or_is (a m i : Nat) (hi : i < 4) (ha : a < 2 ^ (7 * i)) (hm : m < 128) : Go.bits .or .i64 (a : Int) ((m * 128 ^ i : Nat) : Int) = ((a + m * 128 ^ i : Nat) : Int) := by
  have e : m * 128 ^ i = 2 ^ (7 * i) * m := by rw [Nat.pow_mul, Nat.mul_comm]
  have ho : a ||| m * 128 ^ i = a + m * 128 ^ i := by
    rw [e, Nat.or_comm, ← Nat.two_pow_add_eq_or_of_lt ha, Nat.add_comm]
  have hb : m * 128 ^ i < 2 ^ 28 := by
    have h1 : i = 0 ∨ i = 1 ∨ i = 2 ∨ i = 3 := by omega
    rcases h1 with rfl | rfl | rfl | rfl <;> simp <;> omega
  have ha' : a < 2 ^ 28 := Nat.lt_of_lt_of_le ha (Nat.pow_le_pow_right (by decide) (by omega))
  have ma : a % 2 ^ 64 = a := Nat.mod_eq_of_lt (by omega)
  have hk : IntKind.bits .i64 = 64 := rfl
  rw [← ho]
  generalize m * 128 ^ i = b at *
  have mb : b % 2 ^ 64 = b := Nat.mod_eq_of_lt (by omega)
  have hor := Nat.or_lt_two_pow ha' hb
  unfold Go.bits
  simp only [hk, BitVec.toNat_or, BitVec.toNat_ofInt, BitVec.ofInt_natCast, BitVec.toNat_ofNat, ma, mb]
  generalize a ||| b = c at *
  have hw : wrap64 (c : Int) = (c : Int) := by unfold wrap64; omega
  rw [← i64_w] at hw
  exact hw
theorem next_low (a m i : Nat) (ha : a < 2 ^ (7 * i)) (hm : m < 128) : a + m * 128 ^ i < 2 ^ (7 * (i + 1)) := by
  have e : (2 : Nat) ^ (7 * (i + 1)) = 128 * 128 ^ i := by rw [Nat.pow_mul, Nat.pow_succ, Nat.mul_comm]
  have e1 : (2 : Nat) ^ (7 * i) = 128 ^ i := by rw [Nat.pow_mul]
  rw [e]
  rw [e1] at ha
  have : m * 128 ^ i ≤ 127 * 128 ^ i := Nat.mul_le_mul_right _ (by omega)
  omega
theorem pow_small (i : Nat) (hi : i ≤ 4) : 128 ^ i ≤ 268435456 := by
  have h1 : i = 0 ∨ i = 1 ∨ i = 2 ∨ i = 3 ∨ i = 4 := by omega
  rcases h1 with rfl | rfl | rfl | rfl | rfl <;> decide
theorem w64_nat (n : Nat) (h : n < 4611686018427387904) : wrap64 (n : Int) = (n : Int) := by unfold wrap64; omega
theorem rvt_is (b : List Int) (hb : ∀ c ∈ b, 0 ≤ c ∧ c < 256) (hl : b.length ≤ 1000) : ∀ (d i k a : Nat), min b.length 4 = i + d → d < k → a < 2 ^ (7 * i) →
    pentroughref02_Take.l0 k b (a : Int) ((128 ^ i : Nat) : Int) (i : Int) = some (vt b.length i (a : Int) ((b.take (min b.length 4)).drop i)) := by
  intro d
  induction d with
  | zero =>
    intro i k a hi hk ha
    obtain ⟨k, rfl⟩ : ∃ m, k = m + 1 := ⟨k - 1, by omega⟩
    rw [List.drop_of_length_le (by rw [List.length_take]; omega), vt, pentroughref02_Take.l0]
    by_cases h : b.length ≥ 4
    · rw [if_pos h]
      by_cases h5 : b.length = 4
      · rw [if_neg (by omega), if_pos (by omega)]
      · rw [if_pos (by omega), if_pos (by omega)]
    · rw [if_neg h, if_neg (by omega), if_neg (by omega)]
  | succ d ih =>
    intro i k a hi hk ha
    obtain ⟨k, rfl⟩ : ∃ m, k = m + 1 := ⟨k - 1, by omega⟩
    have hlt : i < b.length := by omega
    have hi4 : i < 4 := by omega
    have hlt2 : i < (b.take (min b.length 4)).length := by rw [List.length_take]; omega
    have hg : (b.take (min b.length 4))[i] = b[i] := List.getElem_take
    have hrd : rd b (i : Int) = b[i] := by simp [rd, hlt]
    obtain ⟨c0, c1⟩ := hb b[i] (List.getElem_mem hlt)
    have f1 : (i : Int) < (b.length : Int) := by omega
    have f2 : ¬ ((i : Int) = 4) := by omega
    have f0 : (0 : Int) ≤ (i : Int) := Int.natCast_nonneg _
    obtain ⟨c, hc⟩ : ∃ c : Nat, b[i] = (c : Int) := ⟨b[i].toNat, by omega⟩
    rw [List.drop_eq_getElem_cons hlt2, vt, hg]
    rw [hc] at c0 c1 hrd ⊢
    have hcl : c < 256 := by omega
    have hpt := part_is ⟨c, hcl⟩ ⟨i, hi4⟩
    simp only at hpt
    have hor := or_is a (c % 128) i hi4 ha (by omega)
    have hnl := next_low a (c % 128) i ha (by omega)
    have hps := pow_small (i + 1) (by omega)
    have hps0 := pow_small i (by omega)
    have hmul : c % 128 * 128 ^ i ≤ 127 * 128 ^ i := Nat.mul_le_mul_right _ (by omega)
    have hn28 : 2 ^ (7 * (i + 1)) ≤ 268435456 := by rw [Nat.pow_mul]; exact hps
    have hz1 : c % 128 * 128 ^ i < 4611686018427387904 := by omega
    have hz2 : a + c % 128 * 128 ^ i < 4611686018427387904 := by omega
    have hz3 : 128 ^ (i + 1) < 4611686018427387904 := by omega
    have hz4 : i + 1 < 4611686018427387904 := by omega
    have hz5 : c < 4611686018427387904 := by omega
    have w2 : Int.tmod (c : Int) 128 = ((c % 128 : Nat) : Int) := by rw [Int.tmod_eq_emod_of_nonneg (by omega)]; omega
    have hn := ih (i + 1) k (a + c % 128 * 128 ^ i) (by omega) (by omega) hnl
    have e1 : (((c % 128 : Nat) : Int) * ((128 ^ i : Nat) : Int)) = ((c % 128 * 128 ^ i : Nat) : Int) := (Int.natCast_mul _ _).symm
    have e2 : ((a : Int) + ((c % 128 * 128 ^ i : Nat) : Int)) = ((a + c % 128 * 128 ^ i : Nat) : Int) := (Int.natCast_add _ _).symm
    have e3 : (((128 ^ i : Nat) : Int) * 128) = ((128 ^ (i + 1) : Nat) : Int) := by
      rw [show ((128 : Int)) = ((128 : Nat) : Int) from rfl, ← Int.natCast_mul, ← Nat.pow_succ]
    have e4 : ((i : Int) + 1) = ((i + 1 : Nat) : Int) := (Int.natCast_add i 1).symm
    have q1 : (c : Int) ≥ 128 → ¬ ((c : Int) < 128) := by omega
    have q2 : ¬ ((c : Int) ≥ 128) → ((c : Int) < 128) := by omega
    have q3 : i > 0 → (i : Int) > 0 := by omega
    have q4 : ¬ (i > 0) → ¬ ((i : Int) > 0) := by omega
    clear hnl hps hps0 hmul hn28 hcl c0 c1 hi ih ha
    rw [pentroughref02_Take.l0, hrd, w64_nat c hz5, w2, e1, w64_nat _ hz1, e2, w64_nat _ hz2, e3, w64_nat _ hz3, e4, w64_nat _ hz4, if_pos f1, if_neg f2, if_pos f0, hpt, hor]
    by_cases h1 : (c : Int) ≥ 128
    · rw [if_neg (q1 h1), if_pos h1]; exact hn
    · rw [if_pos (q2 h1), if_neg h1]
      by_cases h2 : (c : Int) = 0
      · rw [if_pos h2, if_pos h2]
        by_cases h3 : i > 0
        · rw [if_pos (q3 h3), if_pos h3]
        · rw [if_neg (q4 h3), if_neg h3]
      · rw [if_neg h2, if_neg h2]
theorem rtake_is (b : List Int) (hb : ∀ c ∈ b, 0 ≤ c ∧ c < 256) (hl : b.length ≤ 1000) (k : Nat) (hk : 5 ≤ k) : pentroughref02_Take.f k b = some (vt b.length 0 0 (b.take (min b.length 4))) :=
  rvt_is b hb hl (min b.length 4) 0 k 0 (by omega) (by omega) (by decide)
/-! ### a frame -/
theorem rft_eq (b : List Int) (hb : ∀ c ∈ b, 0 ≤ c ∧ c < 256) (hl : b.length ≤ 1000) (k : Nat) (hk : 5 ≤ k) : pentroughref13_Take.f k b = frame_Take.f k b := by
  have hT := take_is b k hk
  have hR := rtake_is b hb hl k hk
  rcases hV : vt b.length 0 0 (b.take (min b.length 4)) with ⟨v, s, e⟩
  rw [hV] at hT hR
  have hL : pentroughref13_Take.f k b = (if e = 0 then (if v > (wrap64 ((b.length : Int) - s)) then (some (([] : List Int), 0, 1)) else (if 0 ≤ s then (if s ≤ (wrap64 (s + v)) then (if (wrap64 (s + v)) ≤ (b.length : Int) then (some (((b.take ((wrap64 (s + v)) : Int).toNat).drop (s : Int).toNat), wrap64 (s + v), 0)) else (none)) else (none)) else (none))) else (some (([] : List Int), 0, e))) := by
    unfold pentroughref13_Take.f
    rw [hR]
    rfl
  rw [hL, ft_eq b k v s e hT]
  by_cases he : e = 0
  rotate_left
  · rw [if_neg he, if_neg he]
  subst he
  obtain ⟨m, hm, hs, ⟨v', hv', rfl⟩, _⟩ := vt_pre (b.take (min b.length 4)) b.length 0 0 v s (fun c hc => hb c (List.mem_of_mem_take hc)) (by decide) (by rw [List.length_take]; omega) hV
  rw [List.length_take] at hm
  have hs' : s = ((m + 1 : Nat) : Int) := by rw [hs]; congr 1; omega
  subst hs'
  have hd : (b.drop (m + 1)).length = b.length - (m + 1) := List.length_drop
  have w1 : wrap64 ((b.length : Int) - ((m + 1 : Nat) : Int)) = ((b.length - (m + 1) : Nat) : Int) := by unfold wrap64; omega
  have w2 : wrap64 (((m + 1 : Nat) : Int) + (v' : Int)) = ((m + 1 + v' : Nat) : Int) := by unfold wrap64; omega
  have f0 : (0 : Int) ≤ ((m + 1 : Nat) : Int) := Int.natCast_nonneg _
  have f1 : ((m + 1 : Nat) : Int) ≤ (b.length : Int) := by clear w1 w2; omega
  rw [w1, w2, Int.toNat_natCast, Int.toNat_natCast, hd, if_pos rfl, if_pos rfl, if_pos f0, if_pos f0, if_pos f1]
/-! ### all frames -/
theorem rall_is (x0 : List Int) (hb : ∀ c ∈ x0, 0 ≤ c ∧ c < 256) (hx : x0.length ≤ 400) : ∀ (d i k : Nat) (acc : List ByteArray), x0.length ≤ i + d → i ≤ x0.length → acc.length ≤ i → d + 10 ≤ k →
    pentroughref13_All.l0 k x0 acc (i : Int) = frame_All.l0 k x0 acc (x0.drop i) := by
  intro d
  induction d with
  | zero =>
    intro i k acc hd hi ha hk
    obtain ⟨k, rfl⟩ : ∃ m, k = m + 1 := ⟨k - 1, by omega⟩
    have : i = x0.length := by omega
    subst this
    rw [pentroughref13_All.l0, frame_All.l0, if_neg (by omega), if_neg (by simp)]
  | succ d ih =>
    intro i k acc hd hi ha hk
    obtain ⟨k, rfl⟩ : ∃ m, k = m + 1 := ⟨k - 1, by omega⟩
    have hdl : (x0.drop i).length = x0.length - i := List.length_drop
    by_cases hlt : i = x0.length
    · subst hlt
      rw [pentroughref13_All.l0, frame_All.l0, if_neg (by omega), if_neg (by simp)]
    have hbd : ∀ c ∈ x0.drop i, 0 ≤ c ∧ c < 256 := fun c hc => hb c (List.mem_of_mem_drop hc)
    obtain ⟨t, n, e, hft, hpre⟩ := ftake (x0.drop i) hbd (by omega)
    have h1 := hft k (by omega)
    have h2 := rft_eq (x0.drop i) hbd (by omega) k (by omega)
    rw [h1] at h2
    have f0 : (0 : Int) ≤ (i : Int) := Int.natCast_nonneg _
    have f1 : (i : Int) < (x0.length : Int) := by omega
    have f2 : (i : Int) ≤ (x0.length : Int) := by omega
    have f3 : ((x0.drop i).length : Int) > 0 := by omega
    have g1 : acc.length < 8796093022208 := Nat.lt_of_le_of_lt (show acc.length ≤ 400 by omega) (by decide)
    rw [pentroughref13_All.l0, frame_All.l0, if_pos f1, if_pos f0, if_pos f2, if_pos f3, Int.toNat_natCast, h1, h2, Option.bind_some, Option.bind_some]
    by_cases he : e = 0
    · subst he
      obtain ⟨n1, n2, _⟩ := hpre rfl
      have w1 : wrap64 ((i : Int) + (n : Int)) = ((i + n : Nat) : Int) := by unfold wrap64; omega
      have f4 : (0 : Int) ≤ (n : Int) := Int.natCast_nonneg _
      have f5 : (n : Int) ≤ ((x0.drop i).length : Int) := by clear w1; omega
      have hn := ih (i + n) k (acc ++ [strOfNums t]) (by clear w1; omega) (by clear w1; omega) (by clear w1; rw [List.length_append, List.length_singleton]; omega) (by clear w1; omega)
      show (if (0 : Int) = 0 then (if acc.length < 8796093022208 then (pentroughref13_All.l0 k x0 (acc ++ [strOfNums t]) (wrap64 ((i : Int) + (n : Int)))) else none) else _) = (if (0 : Int) = 0 then (if acc.length < 8796093022208 then (if (0 : Int) ≤ (n : Int) then (if (n : Int) ≤ ((x0.drop i).length : Int) then (frame_All.l0 k x0 (acc ++ [strOfNums t]) ((x0.drop i).drop (n : Int).toNat)) else none) else none) else none) else _)
      rw [if_pos rfl, if_pos rfl, if_pos g1, if_pos g1, if_pos f4, if_pos f5, w1, hn, Int.toNat_natCast, List.drop_drop]
    · have w1 : wrap64 ((x0.length : Int) - ((x0.drop i).length : Int)) = (i : Int) := by rw [hdl]; unfold wrap64; omega
      show (if e = 0 then _ else some (acc, (i : Int), e)) = (if e = 0 then _ else some (acc, wrap64 ((x0.length : Int) - ((x0.drop i).length : Int)), e))
      rw [if_neg he, if_neg he, w1]
/-! ### texts, and what is put -/
theorem texts_loop' (T : List ByteArray) (hl : T.length ≤ 1000) : ∀ (d i k : Nat), T.length = i + d → d < k → pentroughref13_Texts.l0 k T T (i : Int) = some true := by
  intro d
  induction d with
  | zero =>
    intro i k hi hk
    obtain ⟨k, rfl⟩ : ∃ m, k = m + 1 := ⟨k - 1, by omega⟩
    rw [pentroughref13_Texts.l0, if_neg (show ¬ ((i : Int) < (T.length : Int)) by omega)]
  | succ d ih =>
    intro i k hi hk
    obtain ⟨k, rfl⟩ : ∃ m, k = m + 1 := ⟨k - 1, by omega⟩
    have f1 : (i : Int) < (T.length : Int) := by omega
    have f0 : (0 : Int) ≤ (i : Int) := Int.natCast_nonneg _
    have hn := ih (i + 1) k (by omega) (by omega)
    have hw : wrap64 ((i : Int) + 1) = ((i + 1 : Nat) : Int) := by unfold wrap64; omega
    rw [pentroughref13_Texts.l0, if_pos f1, if_pos f0, if_pos f1, if_pos rfl, hw]
    exact hn
theorem texts_same' (T : List ByteArray) (hl : T.length ≤ 1000) (k : Nat) (hk : T.length < k) : pentroughref13_Texts.f k T T = some true := by
  unfold pentroughref13_Texts.f
  rw [if_pos rfl]
  exact texts_loop' T hl T.length 0 k (by omega) hk
theorem str_of_map (l : List Int) (m : List Int) (h : l = m) : strOfNums l = ⟨(m.map fun x => x.toNat.toUInt8).toArray⟩ := by
  subst h
  rfl
theorem form_is (r : Int) (h : goodR r = true) : pentroughref01_Form.f r = some ⟨(Lib.encodeRune r).toArray⟩ := by
  obtain ⟨h0, h1⟩ := good_range h
  have t6 : ∀ x : Int, 0 ≤ x → Int.tdiv x 64 = x / 64 := fun x hx => Int.tdiv_eq_ediv_of_nonneg hx
  have m6 : ∀ x : Int, 0 ≤ x → Int.tmod x 64 = x % 64 := fun x hx => Int.tmod_eq_emod_of_nonneg hx
  unfold pentroughref01_Form.f Lib.encodeRune
  by_cases c1 : r < 128
  · rw [if_pos c1, Lib.encodeRuneZ_one h0 (by omega), str_of_map _ [r] (by congr 1; omega)]
  rw [if_neg c1]
  by_cases c2 : r < 2048
  · have e1 : wrap64 (192 + wrap64 (Int.tdiv r 64)) % 256 = 192 + r / 64 := by rw [t6 r h0]; unfold wrap64; omega
    have e2 : wrap64 (128 + Int.tmod r 64) % 256 = 128 + r % 64 := by rw [m6 r h0]; unfold wrap64; omega
    rw [if_pos c2, Lib.encodeRuneZ_two (by omega) (by omega), e1, e2, str_of_map _ _ rfl]
  rw [if_neg c2]
  have g : (r < 55296) ∨ (57343 < r) := by
    unfold goodR at h
    simp at h
    omega
  by_cases c3 : r < 65536
  · have e1 : wrap64 (224 + wrap64 (Int.tdiv r 4096)) % 256 = 224 + r / 4096 := by rw [Int.tdiv_eq_ediv_of_nonneg h0]; unfold wrap64; omega
    have e2 : wrap64 (128 + Int.tmod (wrap64 (Int.tdiv r 64)) 64) % 256 = 128 + r / 64 % 64 := by
      have w : wrap64 (Int.tdiv r 64) = r / 64 := by rw [t6 r h0]; unfold wrap64; omega
      rw [w, m6 _ (by omega)]; clear w; unfold wrap64; omega
    have e3 : wrap64 (128 + Int.tmod r 64) % 256 = 128 + r % 64 := by rw [m6 r h0]; unfold wrap64; omega
    rw [if_pos c3, Lib.encodeRuneZ_three (by omega), e1, e2, e3, str_of_map _ _ rfl]
  · have e1 : wrap64 (240 + wrap64 (Int.tdiv r 262144)) % 256 = 240 + r / 262144 := by rw [Int.tdiv_eq_ediv_of_nonneg h0]; unfold wrap64; omega
    have e2 : wrap64 (128 + Int.tmod (wrap64 (Int.tdiv r 4096)) 64) % 256 = 128 + r / 4096 % 64 := by
      have w : wrap64 (Int.tdiv r 4096) = r / 4096 := by rw [Int.tdiv_eq_ediv_of_nonneg h0]; unfold wrap64; omega
      rw [w, m6 _ (by omega)]; clear w; unfold wrap64; omega
    have e3 : wrap64 (128 + Int.tmod (wrap64 (Int.tdiv r 64)) 64) % 256 = 128 + r / 64 % 64 := by
      have w : wrap64 (Int.tdiv r 64) = r / 64 := by rw [t6 r h0]; unfold wrap64; omega
      rw [w, m6 _ (by omega)]; clear w; unfold wrap64; omega
    have e4 : wrap64 (128 + Int.tmod r 64) % 256 = 128 + r % 64 := by rw [m6 r h0]; unfold wrap64; omega
    rw [if_neg c3, Lib.encodeRuneZ_four (by omega) (by omega), e1, e2, e3, e4, str_of_map _ _ rfl]
theorem rgood_is (r : Int) : pentroughref01_Good.f r = some (goodR r) := by
  unfold pentroughref01_Good.f goodR
  by_cases c1 : r ≥ 0
  · rw [if_pos c1]
    by_cases c2 : r ≤ 1114111
    · rw [if_pos c2]
      by_cases c3 : r < 55296
      · rw [if_pos c3]; simp [c2, c3]; omega
      · rw [if_neg c3]; simp [c2, c3]; omega
    · rw [if_neg c2]; simp [c2]
  · rw [if_neg c1]; simp; omega
theorem repl_good : goodR 65533 = true := by decide
theorem repl_is_good (r : Int) : goodR (replR r) = true := by
  unfold replR
  split
  · assumption
  · exact repl_good
theorem rtext_step (r : Int) : ((pentroughref01_Good.f r).bind fun t245 => (if t245 = true then pentroughref01_Form.f r else pentroughref01_Form.f 65533)) = some ⟨(Lib.encodeRune (replR r)).toArray⟩ := by
  rw [rgood_is, Option.bind_some]
  by_cases h : goodR r = true
  · rw [if_pos h, form_is r h]; unfold replR; rw [if_pos h]
  · rw [if_neg h, form_is _ repl_good]; unfold replR; rw [if_neg h]
theorem ba_append (l m : List UInt8) : (⟨l.toArray⟩ : ByteArray) ++ ⟨m.toArray⟩ = ⟨(l ++ m).toArray⟩ := by
  apply ByteArray.ext
  apply Array.toList_inj.1
  simp
theorem rtext_loop (x0 : List Int) (hx : x0.length ≤ 200) : ∀ (d i k : Nat), x0.length = i + d → d < k → pentroughref01_Text.l0 k x0 ⟨(textL (x0.take i)).toArray⟩ (i : Int) = some (textB x0) := by
  intro d
  induction d with
  | zero =>
    intro i k hi hk
    obtain ⟨k, rfl⟩ : ∃ m, k = m + 1 := ⟨k - 1, by omega⟩
    rw [pentroughref01_Text.l0, if_neg (show ¬ ((i : Int) < (x0.length : Int)) by omega), List.take_of_length_le (by omega)]
    rfl
  | succ d ih =>
    intro i k hi hk
    obtain ⟨k, rfl⟩ : ∃ m, k = m + 1 := ⟨k - 1, by omega⟩
    have hlt : i < x0.length := by omega
    have f1 : (i : Int) < (x0.length : Int) := by omega
    have f0 : (0 : Int) ≤ (i : Int) := Int.natCast_nonneg _
    have hrd : rd x0 (i : Int) = x0[i] := by simp [rd, hlt]
    have hn := ih (i + 1) k (by omega) (by omega)
    have hw : wrap64 ((i : Int) + 1) = ((i + 1 : Nat) : Int) := by unfold wrap64; omega
    have hts : textL (x0.take (i + 1)) = textL (x0.take i) ++ Lib.encodeRune (replR x0[i]) := by
      rw [List.take_succ_eq_append_getElem hlt, textL_snoc]
    have hz : ((⟨(textL (x0.take i)).toArray⟩ : ByteArray).size + (⟨(Lib.encodeRune (replR x0[i])).toArray⟩ : ByteArray).size) ≤ 9223372036854775807 := by
      have h1 := textL_le (x0.take (i + 1))
      have h2 : (textL (x0.take (i + 1))).length = (textL (x0.take i)).length + (Lib.encodeRune (replR x0[i])).length := by rw [hts, List.length_append]
      have h3 : (x0.take (i + 1)).length ≤ 200 := by rw [List.length_take]; omega
      have h4 : (textL (x0.take i)).length + (Lib.encodeRune (replR x0[i])).length ≤ 800 := by clear hw; omega
      have h5 : ((⟨(textL (x0.take i)).toArray⟩ : ByteArray).size + (⟨(Lib.encodeRune (replR x0[i])).toArray⟩ : ByteArray).size) = (textL (x0.take i)).length + (Lib.encodeRune (replR x0[i])).length := by simp [ByteArray.size]
      rw [h5]
      exact Nat.le_trans h4 (by decide)
    have hg := rgood_is x0[i]
    rw [hts, ← ba_append] at hn
    rw [pentroughref01_Text.l0, hrd, if_pos f1, if_pos f0, hg, Option.bind_some, hw]
    by_cases h : goodR x0[i] = true
    · have hr : replR x0[i] = x0[i] := by unfold replR; rw [if_pos h]
      rw [if_pos h, form_is _ h, Option.bind_some]
      rw [hr] at hn hz
      rw [if_pos hz]
      exact hn
    · have hr : replR x0[i] = 65533 := by unfold replR; rw [if_neg h]
      rw [if_neg h, form_is _ repl_good, Option.bind_some]
      rw [hr] at hn hz
      rw [if_pos hz]
      exact hn
theorem rtext_is (x0 : List Int) (hx : x0.length ≤ 200) (k : Nat) (hk : x0.length < k) : pentroughref01_Text.f k x0 = some (textB x0) := rtext_loop x0 hx x0.length 0 k (by omega) hk
theorem rput_fin : ∀ n : Fin 1024, pentroughref02_Put.f 10 (n.val : Int) = some (vL n.val) := by decide +kernel
theorem rput_v (n : Nat) (h : n < 1024) (k : Nat) (hk : 10 ≤ k) : pentroughref02_Put.f k (n : Int) = some (vL n) := by
  obtain ⟨d, rfl⟩ : ∃ d, k = 10 + d := ⟨k - 10, by omega⟩
  clear hk
  induction d with
  | zero => exact rput_fin ⟨n, h⟩
  | succ d ih => exact pentroughref02_Put.mono _ _ _ ih
theorem rput_is (l : List Int) (hl : l.length ≤ 200) : ∃ b : List Int, frame_Put.f l = some b ∧ pentroughref13_Put.f 2000 l = some b := by
  have ht := rtext_is l hl 2000 (by omega)
  have hle := textL_le l
  by_cases hz : l = []
  · subst hz
    refine ⟨[], rfl, ?_⟩
    unfold pentroughref13_Put.f
    rw [ht]
    rfl
  · have hpos : 0 < (textL l).length := by
      cases l with
      | nil => exact absurd rfl hz
      | cons a l =>
        have := Lib.encodeRuneZ_length (replR a)
        unfold textL
        rw [List.flatMap_cons, List.length_append]
        unfold Lib.encodeRune
        rw [List.length_map]
        omega
    have hb : (bytesOf (textB l)).length = (textL l).length := by rw [bytesOf_length, textB_size]
    refine ⟨_, frame_put l hpos (by omega) (by omega), ?_⟩
    have hs : (textB l).size = (textL l).length := textB_size l
    have hv := rput_v (textL l).length (by omega) 2000 (by decide)
    have v := vL_len (textL l).length
    have g1 : ¬ ((l.length : Int) = 0) := by
      have : 0 < l.length := List.length_pos_iff.2 hz
      omega
    have g2 : ¬ (((textL l).length : Int) > 268435455) := by omega
    have g3 : (vL (textL l).length).length + (textL l).length < 140737488355328 := Nat.lt_of_le_of_lt (show (vL (textL l).length).length + (textL l).length ≤ 1000 by omega) (by decide)
    unfold pentroughref13_Put.f
    rw [ht, Option.bind_some, if_neg g1, hs, if_neg g2, hv, Option.bind_some, if_pos g3, hb]
end Go.Proofs.Ytcabijajjceghaa.G
