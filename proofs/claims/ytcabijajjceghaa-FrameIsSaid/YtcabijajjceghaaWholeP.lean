/- What varint.Take tells of any bytes, plainly: it depends on the bytes ahead of where it ends. No condition. -/
import Derived.Test.YtcabijajjceghaaFrameP
import Derived.Test.YtcabijajjceghaaG7
namespace Go.Proofs.Ytcabijajjceghaa.G
open Go.RowKit Go.Proofs.YtcabijajjceghaaW.PrintWords Go.Proofs.YtcabijajjceghaaW.PrintLast Go.Proofs.YtcabijajjceghaaW.PrintMore
set_option linter.unusedVariables false
set_option linter.unusedSimpArgs false

/-- Seven bits of a byte, at their place. -/
def part (c : Int) (i : Nat) : Int := shl .i64 (wrap64 (Go.bits .and .u8 c 127)) (wrap64 (7 * (i : Int)))
theorem part_fin : ∀ c : Fin 256, ∀ i : Fin 4, 0 ≤ part (c.val : Int) i.val ∧ part (c.val : Int) i.val < 268435456 := by decide +kernel
theorem part_range (c : Int) (i : Nat) (h0 : 0 ≤ c) (h1 : c < 256) (hi : i < 4) : ∃ a : Nat, a < 2 ^ 28 ∧ part c i = (a : Int) := by
  have := part_fin ⟨c.toNat, by omega⟩ ⟨i, hi⟩
  simp only [Int.toNat_of_nonneg h0] at this
  exact ⟨(part c i).toNat, by omega, by omega⟩
theorem or_range (a b : Nat) (ha : a < 2 ^ 28) (hb : b < 2 ^ 28) : ∃ c : Nat, c < 2 ^ 28 ∧ Go.bits .or .i64 (a : Int) (b : Int) = (c : Int) := by
  have ho := Nat.or_lt_two_pow ha hb
  refine ⟨a ||| b, ho, ?_⟩
  have hk : IntKind.bits .i64 = 64 := rfl
  have ma : a % 2 ^ 64 = a := Nat.mod_eq_of_lt (by omega)
  have mb : b % 2 ^ 64 = b := Nat.mod_eq_of_lt (by omega)
  unfold Go.bits
  simp only [hk, BitVec.toNat_or, BitVec.toNat_ofInt, BitVec.ofInt_natCast, BitVec.toNat_ofNat, ma, mb]
  generalize a ||| b = c at *
  have hw : wrap64 (c : Int) = (c : Int) := by unfold wrap64; omega
  rw [← i64_w] at hw
  exact hw

def vt (len : Nat) : Nat → Int → List Int → Int × Int × Int
  | _, _, [] => if len ≥ 4 then (0, 0, 3) else (0, 0, 1)
  | i, acc, c :: t => if c ≥ 128 then vt len (i + 1) (Go.bits .or .i64 acc (part c i)) t else if c = 0 then (if i > 0 then (0, 0, 2) else (Go.bits .or .i64 acc (part c i), ((i + 1 : Nat) : Int), 0)) else (Go.bits .or .i64 acc (part c i), ((i + 1 : Nat) : Int), 0)

theorem seven : ∀ i : Fin 4, 0 ≤ wrap64 (7 * (i.val : Int)) := by decide +kernel
theorem vt_is (x0 xs : List Int) (h4 : xs.length ≤ 4) : ∀ (d i k : Nat) (acc : Int), xs.length = i + d → d < k → varint_Take.l0 k x0 acc xs (xs.length : Int) (i : Int) = some (vt x0.length i acc (xs.drop i)) := by
  intro d
  induction d with
  | zero =>
    intro i k acc hi hk
    obtain ⟨k, rfl⟩ : ∃ m, k = m + 1 := ⟨k - 1, by omega⟩
    rw [varint_Take.l0, if_neg (show ¬ ((i : Int) < (xs.length : Int)) by omega), List.drop_of_length_le (by omega), vt]
    by_cases h : x0.length ≥ 4
    · rw [if_pos h, if_pos (by omega)]
    · rw [if_neg h, if_neg (by omega)]
  | succ d ih =>
    intro i k acc hi hk
    obtain ⟨k, rfl⟩ : ∃ m, k = m + 1 := ⟨k - 1, by omega⟩
    have hlt : i < xs.length := by omega
    have f1 : (i : Int) < (xs.length : Int) := by omega
    have f0 : (0 : Int) ≤ (i : Int) := Int.natCast_nonneg _
    have hrd : rd xs (i : Int) = xs[i] := by simp [rd, hlt]
    have q : 0 ≤ wrap64 (7 * (i : Int)) := seven ⟨i, by omega⟩
    have hw : wrap64 ((i : Int) + 1) = ((i + 1 : Nat) : Int) := by unfold wrap64; omega
    have hn := ih (i + 1) k (Go.bits .or .i64 acc (part xs[i] i)) (by omega) (by omega)
    rw [varint_Take.l0, hrd, if_pos f1, if_pos f0, if_pos f1]
    show (some (Go.bits .and .u8 xs[i] 127)).bind _ = _
    rw [Option.bind_some, if_pos q, hw, List.drop_eq_getElem_cons hlt, vt]
    by_cases h1 : xs[i] ≥ 128
    · rw [if_pos h1, if_pos h1]; exact hn
    · rw [if_neg h1, if_neg h1]
      by_cases h2 : xs[i] = 0
      · rw [if_pos h2, if_pos h2]
        by_cases h3 : i > 0
        · rw [if_pos h3, if_pos (by omega)]
        · rw [if_neg h3, if_neg (by omega)]; rfl
      · rw [if_neg h2, if_neg h2]; rfl
theorem vt_pre (ys : List Int) : ∀ (len i : Nat) (a : Nat) (v s : Int), (∀ c ∈ ys, 0 ≤ c ∧ c < 256) → a < 2 ^ 28 → i + ys.length ≤ 4 → vt len i (a : Int) ys = (v, s, 0) →
    ∃ m, m < ys.length ∧ s = ((i + m + 1 : Nat) : Int) ∧ (∃ b : Nat, b < 2 ^ 28 ∧ v = (b : Int)) ∧ ∀ len' ys', vt len' i (a : Int) (ys.take (m + 1) ++ ys') = (v, s, 0) := by
  induction ys with
  | nil =>
    intro len i a v s _ _ _ h
    rw [vt] at h
    split at h <;> simp at h
  | cons c t ih =>
    intro len i a v s hb ha hl h
    rw [List.length_cons] at hl
    obtain ⟨h0, h1⟩ := hb c (by simp)
    obtain ⟨p, hp, ep⟩ := part_range c i h0 h1 (by omega)
    obtain ⟨o, ho, eo⟩ := or_range a p ha hp
    rw [vt, ep, eo] at h
    by_cases q1 : c ≥ 128
    · rw [if_pos q1] at h
      obtain ⟨m, hm, hs, hv, hall⟩ := ih len (i + 1) o v s (fun x hx => hb x (by simp [hx])) ho (by omega) h
      refine ⟨m + 1, by rw [List.length_cons]; omega, by rw [hs]; congr 1; omega, hv, fun len' ys' => ?_⟩
      rw [List.take_succ_cons, List.cons_append, vt, if_pos q1, ep, eo]
      exact hall len' ys'
    · rw [if_neg q1] at h
      by_cases q2 : c = 0
      · rw [if_pos q2] at h
        by_cases q3 : i > 0
        · rw [if_pos q3] at h; simp at h
        · rw [if_neg q3] at h
          have e1 : (o : Int) = v := congrArg Prod.fst h
          have e2 : ((i + 1 : Nat) : Int) = s := congrArg (fun x => x.2.1) h
          refine ⟨0, by simp, e2.symm, ⟨o, ho, e1.symm⟩, fun len' ys' => ?_⟩
          rw [List.take_succ_cons, List.take_zero, List.cons_append, vt, if_neg q1, if_pos q2, if_neg q3, ep, eo]
          exact h
      · rw [if_neg q2] at h
        have e1 : (o : Int) = v := congrArg Prod.fst h
        have e2 : ((i + 1 : Nat) : Int) = s := congrArg (fun x => x.2.1) h
        refine ⟨0, by simp, e2.symm, ⟨o, ho, e1.symm⟩, fun len' ys' => ?_⟩
        rw [List.take_succ_cons, List.take_zero, List.cons_append, vt, if_neg q1, if_neg q2, ep, eo]
        exact h
theorem take_is (b : List Int) (k : Nat) (hk : 5 ≤ k) : varint_Take.f k b = some (vt b.length 0 0 (b.take (min b.length 4))) := by
  unfold varint_Take.f
  rw [mn_pos, Int.toNat_natCast, if_pos (Int.natCast_nonneg _), if_pos (by omega)]
  have hl : (b.take (min b.length 4)).length ≤ 4 := by rw [List.length_take]; omega
  exact vt_is b (b.take (min b.length 4)) hl (b.take (min b.length 4)).length 0 k 0 (by omega) (by omega)
theorem ft_eq (b : List Int) (k : Nat) (v s e : Int) (hv : varint_Take.f k b = some (v, s, e)) : frame_Take.f k b = (if e = 0 then (if 0 ≤ s then (if s ≤ (b.length : Int) then (if v > ((b.drop (s : Int).toNat).length : Int) then (some (([] : List Int), 0, 1)) else (if s ≤ (wrap64 (s + v)) then (if (wrap64 (s + v)) ≤ (b.length : Int) then (some (((b.take ((wrap64 (s + v)) : Int).toNat).drop (s : Int).toNat), wrap64 (s + v), 0)) else (none)) else (none))) else (none)) else (none)) else (some (([] : List Int), 0, e))) := by
  unfold frame_Take.f
  rw [hv]
  rfl
/-- Where a frame is whole. -/
theorem ft_some (b : List Int) (k q v : Nat) (hl : b.length ≤ 1000) (hq : 1 ≤ q) (hv : varint_Take.f k b = some ((v : Int), (q : Int), 0)) (hs : q + v ≤ b.length) : frame_Take.f k b = some ((b.take (q + v)).drop q, ((q + v : Nat) : Int), 0) := by
  have hw : wrap64 ((q : Int) + (v : Int)) = ((q + v : Nat) : Int) := by unfold wrap64; omega
  have hd : (b.drop q).length = b.length - q := List.length_drop
  have f1 : (0 : Int) ≤ (q : Int) := Int.natCast_nonneg _
  have f2 : (q : Int) ≤ (b.length : Int) := by clear hw; omega
  have f3 : ¬ ((v : Int) > ((b.drop q).length : Int)) := by clear hw; omega
  have f4 : (q : Int) ≤ ((q + v : Nat) : Int) := by clear hw; omega
  have f5 : ((q + v : Nat) : Int) ≤ (b.length : Int) := by clear hw; omega
  rw [ft_eq b k _ _ _ hv, hw, Int.toNat_natCast, Int.toNat_natCast, if_pos rfl, if_pos f1, if_pos f2, if_neg f3, if_pos f4, if_pos f5]
theorem ftake (b : List Int) (hb : ∀ c ∈ b, 0 ≤ c ∧ c < 256) (hl : b.length ≤ 1000) : ∃ (t : List Int) (n : Nat) (e : Int), (∀ k, 5 ≤ k → frame_Take.f k b = some (t, (n : Int), e)) ∧
    (e = 0 → 1 ≤ n ∧ n ≤ b.length ∧ ∀ c : List Int, (b.take n ++ c).length ≤ 1000 → ∀ k, 5 ≤ k → frame_Take.f k (b.take n ++ c) = some (t, (n : Int), 0)) := by
  have hT := take_is b
  rcases hV : vt b.length 0 0 (b.take (min b.length 4)) with ⟨v, s, e⟩
  rw [hV] at hT
  by_cases he : e = 0
  rotate_left
  · exact ⟨[], 0, e, fun k hk => by rw [ft_eq b k v s e (hT k hk), if_neg he]; rfl, fun h => absurd h he⟩
  subst he
  obtain ⟨m, hm, hs, ⟨v', hv', rfl⟩, hall⟩ := vt_pre (b.take (min b.length 4)) b.length 0 0 v s (fun c hc => hb c (List.mem_of_mem_take hc)) (by decide) (by rw [List.length_take]; omega) hV
  rw [List.length_take] at hm
  have hs' : s = ((m + 1 : Nat) : Int) := by rw [hs]; congr 1; omega
  subst hs'
  by_cases hlen : m + 1 + v' ≤ b.length
  · refine ⟨(b.take (m + 1 + v')).drop (m + 1), m + 1 + v', 0, fun k hk => ft_some b k (m + 1) v' hl (by omega) (hT k hk) hlen, fun _ => ⟨by omega, hlen, fun c hc k hk => ?_⟩⟩
    have hbt : (b.take (m + 1 + v')).length = m + 1 + v' := by rw [List.length_take]; omega
    have hXl : (b.take (m + 1 + v') ++ c).length = m + 1 + v' + c.length := by rw [List.length_append, hbt]
    have hXt : (b.take (m + 1 + v') ++ c).take (m + 1 + v') = b.take (m + 1 + v') := List.take_left' hbt
    have hX1 : (b.take (m + 1 + v') ++ c).take (m + 1) = b.take (m + 1) := by
      have : (b.take (m + 1 + v') ++ c).take (m + 1) = ((b.take (m + 1 + v') ++ c).take (m + 1 + v')).take (m + 1) := by rw [List.take_take]; congr 1; omega
      rw [this, hXt, List.take_take]; congr 1; omega
    generalize b.take (m + 1 + v') ++ c = X at *
    have hXv : varint_Take.f k X = some ((v' : Int), ((m + 1 : Nat) : Int), 0) := by
      rw [take_is X k hk]
      have e1 : X.take (min X.length 4) = (b.take (min b.length 4)).take (m + 1) ++ (X.take (min X.length 4)).drop (m + 1) := by
        have e2 : (b.take (min b.length 4)).take (m + 1) = (X.take (min X.length 4)).take (m + 1) := by
          rw [List.take_take, List.take_take, show min (m + 1) (min b.length 4) = m + 1 by omega, show min (m + 1) (min X.length 4) = m + 1 by omega, hX1]
        rw [e2, List.take_append_drop]
      rw [e1]
      have := hall X.length ((X.take (min X.length 4)).drop (m + 1))
      exact congrArg some this
    rw [ft_some X k (m + 1) v' hc (by omega) hXv (by omega), hXt]
  · refine ⟨[], 0, 1, fun k hk => ?_, fun h => by cases h⟩
    have hd : (b.drop (m + 1)).length = b.length - (m + 1) := List.length_drop
    have f3 : ((v' : Int) > ((b.drop (m + 1)).length : Int)) := by omega
    rw [ft_eq b k _ _ _ (hT k hk), Int.toNat_natCast, if_pos rfl, if_pos (Int.natCast_nonneg _), if_pos (by omega), if_pos f3]
    rfl
theorem all_step (b x0 : List Int) (acc : List ByteArray) (k n : Nat) (t : List Int) (h0 : 0 < b.length) (hn : n ≤ b.length) (ha : acc.length ≤ 1000) (ht : frame_Take.f k b = some (t, (n : Int), 0)) : frame_All.l0 (k + 1) x0 acc b = frame_All.l0 k x0 (acc ++ [strOfNums t]) (b.drop n) := by
  have g0 : ((b.length : Int)) > 0 := by omega
  have g1 : acc.length < 8796093022208 := Nat.lt_of_le_of_lt ha (by decide)
  have g2 : (0 : Int) ≤ (n : Int) := Int.natCast_nonneg _
  have g3 : (n : Int) ≤ (b.length : Int) := by omega
  rw [frame_All.l0, if_pos g0, ht, Option.bind_some]
  show (if acc.length < 8796093022208 then (if (0 : Int) ≤ (n : Int) then (if (n : Int) ≤ (b.length : Int) then (frame_All.l0 k x0 (acc ++ [strOfNums t]) (b.drop (n : Int).toNat)) else none) else none) else none) = _
  rw [if_pos g1, if_pos g2, if_pos g3, Int.toNat_natCast]
theorem all_pre : ∀ (N : Nat) (b : List Int), b.length ≤ N → (∀ c ∈ b, 0 ≤ c ∧ c < 256) → b.length ≤ 400 → ∃ (T : List ByteArray) (n : Nat) (e : Int), n ≤ b.length ∧ T.length ≤ n ∧ (e = 0 ↔ n = b.length) ∧
    (∀ (x0 : List Int) (acc : List ByteArray) (k : Nat), x0.length ≤ 1000 → b.length ≤ x0.length → acc.length + b.length ≤ 1000 → b.length + 10 ≤ k → frame_All.l0 k x0 acc b = some (acc ++ T, ((x0.length - (b.length - n) : Nat) : Int), e)) ∧
    (∀ (c x0 : List Int) (acc : List ByteArray) (k : Nat), (b.take n ++ c).length ≤ 1000 → acc.length + n ≤ 1000 → n + 10 ≤ k → frame_All.l0 k x0 acc (b.take n ++ c) = frame_All.l0 (k - T.length) x0 (acc ++ T) c) := by
  intro N
  induction N with
  | zero =>
    intro b hN _ _
    have : b = [] := List.length_eq_zero_iff.1 (by omega)
    subst this
    refine ⟨[], 0, 0, by simp, by simp, by simp, fun x0 acc k _ _ _ hk => ?_, fun c x0 acc k _ _ _ => by simp⟩
    obtain ⟨k, rfl⟩ : ∃ m, k = m + 1 := ⟨k - 1, by omega⟩
    rw [frame_All.l0, if_neg (by simp)]
    simp
  | succ N ih =>
    intro b hN hb hl
    by_cases h0 : b.length = 0
    · exact ih b (by omega) hb hl
    obtain ⟨t, n1, e1, hft, hpre⟩ := ftake b hb (by omega)
    by_cases he : e1 = 0
    rotate_left
    · refine ⟨[], 0, e1, by omega, by simp, ⟨fun h => absurd h he, fun h => by omega⟩, fun x0 acc k hx hbx _ hk => ?_, fun c x0 acc k _ _ _ => by simp⟩
      obtain ⟨k, rfl⟩ : ∃ m, k = m + 1 := ⟨k - 1, by omega⟩
      have hw : wrap64 ((x0.length : Int) - (b.length : Int)) = ((x0.length - (b.length - 0) : Nat) : Int) := by unfold wrap64; omega
      rw [frame_All.l0, if_pos (show (b.length : Int) > 0 by clear hw; omega), hft k (by clear hw; omega), Option.bind_some]
      show (if e1 = 0 then _ else some (acc, wrap64 ((x0.length : Int) - (b.length : Int)), e1)) = _
      rw [if_neg he, hw, List.append_nil]
    subst he
    obtain ⟨p1, p2, hp⟩ := hpre rfl
    have hdl : (b.drop n1).length = b.length - n1 := List.length_drop
    obtain ⟨T, n, e, q1, q2, q3, q4, q5⟩ := ih (b.drop n1) (by omega) (fun c hc => hb c (List.mem_of_mem_drop hc)) (by omega)
    refine ⟨strOfNums t :: T, n1 + n, e, by omega, by rw [List.length_cons]; omega, ⟨fun h => by have := q3.1 h; omega, fun h => q3.2 (by omega)⟩, fun x0 acc k hx hbx ha hk => ?_, fun c x0 acc k hc ha hk => ?_⟩
    · obtain ⟨k, rfl⟩ : ∃ m, k = m + 1 := ⟨k - 1, by omega⟩
      rw [all_step b x0 acc k n1 t (by omega) p2 (by omega) (hft k (by omega)), q4 x0 (acc ++ [strOfNums t]) k hx (by omega) (by rw [List.length_append, List.length_singleton]; omega) (by omega), List.append_assoc, List.singleton_append, show (b.drop n1).length - n = b.length - (n1 + n) by omega]
    · obtain ⟨k, rfl⟩ : ∃ m, k = m + 1 := ⟨k - 1, by omega⟩
      have et : b.take (n1 + n) ++ c = b.take n1 ++ ((b.drop n1).take n ++ c) := by rw [List.take_add, List.append_assoc]
      rw [et] at hc ⊢
      have hbt : (b.take n1).length = n1 := by rw [List.length_take]; omega
      have hd : (b.take n1 ++ ((b.drop n1).take n ++ c)).drop n1 = (b.drop n1).take n ++ c := List.drop_left' hbt
      have hlen : (b.take n1 ++ ((b.drop n1).take n ++ c)).length = n1 + ((b.drop n1).take n ++ c).length := by rw [List.length_append, hbt]
      rw [all_step _ x0 acc k n1 t (by omega) (by omega) (by omega) (hp _ hc k (by omega)), hd, q5 c x0 (acc ++ [strOfNums t]) k (by omega) (by rw [List.length_append, List.length_singleton]; omega) (by omega), List.append_assoc, List.singleton_append, List.length_cons, show k + 1 - (T.length + 1) = k - T.length by omega]
end Go.Proofs.Ytcabijajjceghaa.G
