/- What package frame does with short texts, plainly. No condition. -/
import Derived.Test.YtcabijajjceghaaHPut
import Derived.Test.YtcabijajjceghaaG5
import Derived.Test.YtcabijajjceghaaG4
namespace Go.Proofs.Ytcabijajjceghaa.G
open Go.RowKit Go.Proofs.YtcabijajjceghaaW.PrintWords Go.Proofs.YtcabijajjceghaaW.PrintLast Go.Proofs.YtcabijajjceghaaW.PrintMore
set_option linter.unusedVariables false
set_option linter.unusedSimpArgs false

def vL (n : Nat) : List Int := if n < 128 then [(n : Int)] else [((128 + n % 128 : Nat) : Int), ((n / 128 : Nat) : Int)]
theorem put_fin : ∀ n : Fin 1024, varint_Put.f 10 (n.val : Int) = some (vL n.val) := by decide +kernel
theorem put_v (n : Nat) (h : n < 1024) (k : Nat) (hk : 10 ≤ k) : varint_Put.f k (n : Int) = some (vL n) := by
  obtain ⟨d, rfl⟩ : ∃ d, k = 10 + d := ⟨k - 10, by omega⟩
  clear hk
  induction d with
  | zero => exact put_fin ⟨n, h⟩
  | succ d ih => exact varint_Put.mono _ _ _ ih
theorem vL_len (n : Nat) : 1 ≤ (vL n).length ∧ (vL n).length ≤ 2 := by unfold vL; split <;> simp
theorem or1_fin : ∀ n : Fin 128, Go.bits .or .i64 0 (shl .i64 (wrap64 (Go.bits .and .u8 (n.val : Int) 127)) (wrap64 (7 * 0))) = (n.val : Int) := by decide +kernel
theorem or2_fin : ∀ n : Fin 1024, Go.bits .or .i64 (Go.bits .or .i64 0 (shl .i64 (wrap64 (Go.bits .and .u8 ((128 + n.val % 128 : Nat) : Int) 127)) (wrap64 (7 * 0)))) (shl .i64 (wrap64 (Go.bits .and .u8 ((n.val / 128 : Nat) : Int) 127)) (wrap64 (7 * 1))) = (n.val : Int) := by decide +kernel
theorem mn_pos (n : Nat) : mn (n : Int) 4 = ((min n 4 : Nat) : Int) := by unfold mn; split <;> omega
theorem take_v (n : Nat) (h0 : 0 < n) (h : n < 1024) (rest : List Int) (k : Nat) (hk : 3 ≤ k) : varint_Take.f k (vL n ++ rest) = some ((n : Int), ((vL n).length : Int), 0) := by
  obtain ⟨k, rfl⟩ : ∃ d, k = d + 1 + 1 + 1 := ⟨k - 3, by omega⟩
  have w0 : wrap64 (0 + 1) = 1 := by decide +kernel
  have w1 : wrap64 (1 + 1) = 2 := by decide +kernel
  have q0 : 0 ≤ wrap64 (7 * 0) := by decide +kernel
  have q1 : 0 ≤ wrap64 (7 * 1) := by decide +kernel
  unfold varint_Take.f
  rw [mn_pos, Int.toNat_natCast, if_pos (Int.natCast_nonneg _), if_pos (by omega)]
  unfold vL
  by_cases hs : n < 128
  · have o1 := or1_fin ⟨n, hs⟩
    simp only at o1
    rw [if_pos hs]
    obtain ⟨m, hm⟩ : ∃ m, min ([(n : Int)] ++ rest).length 4 = m + 1 := ⟨min ([(n : Int)] ++ rest).length 4 - 1, by simp; omega⟩
    rw [hm, List.singleton_append, List.take_succ_cons]
    have p1 : (0 : Int) < (((n : Int) :: rest.take m).length : Int) := by rw [List.length_cons]; omega
    have r0 : rd ((n : Int) :: rest.take m) 0 = (n : Int) := rfl
    rw [varint_Take.l0, r0, if_pos p1, if_pos (Int.le_refl 0), if_pos p1]
    show (some (Go.bits .and .u8 (n : Int) 127)).bind _ = _
    rw [Option.bind_some, if_pos q0, if_neg (show ¬ ((n : Int) ≥ 128) by omega), if_neg (show ¬ ((n : Int) = 0) by omega), o1, w0]
    rfl
  · have o2 := or2_fin ⟨n, h⟩
    simp only at o2
    rw [if_neg hs]
    obtain ⟨m, hm⟩ : ∃ m, min ([((128 + n % 128 : Nat) : Int), ((n / 128 : Nat) : Int)] ++ rest).length 4 = m + 2 := ⟨min ([((128 + n % 128 : Nat) : Int), ((n / 128 : Nat) : Int)] ++ rest).length 4 - 2, by simp; omega⟩
    rw [hm, List.cons_append, List.singleton_append, List.take_succ_cons, List.take_succ_cons]
    have hx : ((128 + n % 128 : Nat) : Int) ≥ 128 := by omega
    have hy : ¬ (((n / 128 : Nat) : Int) ≥ 128) := by omega
    have hy0 : ¬ (((n / 128 : Nat) : Int) = 0) := by omega
    generalize ((128 + n % 128 : Nat) : Int) = x at *
    generalize ((n / 128 : Nat) : Int) = y at *
    have p1 : (0 : Int) < ((x :: y :: rest.take m).length : Int) := by rw [List.length_cons]; omega
    have p2 : (1 : Int) < ((x :: y :: rest.take m).length : Int) := by rw [List.length_cons, List.length_cons]; omega
    have r0 : rd (x :: y :: rest.take m) 0 = x := rfl
    have r1 : rd (x :: y :: rest.take m) 1 = y := rfl
    rw [varint_Take.l0, r0, if_pos p1, if_pos (Int.le_refl 0), if_pos p1]
    show (some (Go.bits .and .u8 x 127)).bind _ = _
    rw [Option.bind_some, if_pos q0, if_pos hx, w0, varint_Take.l0, r1, if_pos p2, if_pos (show (0 : Int) ≤ 1 by decide), if_pos p2]
    show (some (Go.bits .and .u8 y 127)).bind _ = _
    rw [Option.bind_some, if_pos q1, if_neg hy, if_neg hy0, o2, w1]
    rfl
theorem frame_take (t rest : List Int) (h0 : 0 < t.length) (h : t.length < 1024) (hr : rest.length ≤ 100000) (k : Nat) (hk : 3 ≤ k) : frame_Take.f k (vL t.length ++ t ++ rest) = some (t, (((vL t.length).length + t.length : Nat) : Int), 0) := by
  obtain ⟨v1, v2⟩ := vL_len t.length
  have hv := take_v t.length h0 h (t ++ rest) k hk
  rw [← List.append_assoc] at hv
  have hl : (vL t.length ++ t ++ rest).length = (vL t.length).length + t.length + rest.length := by simp only [List.length_append]
  generalize vL t.length = V at *
  have hw : wrap64 ((V.length : Int) + (t.length : Int)) = ((V.length + t.length : Nat) : Int) := by unfold wrap64; omega
  have hd : ((V ++ t ++ rest).take (V.length + t.length)).drop V.length = t := by
    have : (V ++ t ++ rest).take (V.length + t.length) = V ++ t := List.take_left' (by simp)
    rw [this]; simp
  have hd2 : ((V ++ t ++ rest).drop V.length).length = t.length + rest.length := by rw [List.length_drop, hl]; omega
  have f1 : (0 : Int) ≤ (V.length : Int) := by omega
  have f2 : (V.length : Int) ≤ ((V ++ t ++ rest).length : Int) := by omega
  have f3 : ¬ ((t.length : Int) > (((V ++ t ++ rest).drop V.length).length : Int)) := by omega
  have f4 : (V.length : Int) ≤ ((V.length + t.length : Nat) : Int) := by omega
  have f5 : ((V.length + t.length : Nat) : Int) ≤ ((V ++ t ++ rest).length : Int) := by omega
  have e : frame_Take.f k (V ++ t ++ rest) = (if (0 : Int) ≤ (V.length : Int) then (if (V.length : Int) ≤ ((V ++ t ++ rest).length : Int) then (if (t.length : Int) > (((V ++ t ++ rest).drop ((V.length : Int)).toNat).length : Int) then (some (([] : List Int), 0, 1)) else (if (V.length : Int) ≤ (wrap64 ((V.length : Int) + (t.length : Int))) then (if (wrap64 ((V.length : Int) + (t.length : Int))) ≤ ((V ++ t ++ rest).length : Int) then (some ((((V ++ t ++ rest).take ((wrap64 ((V.length : Int) + (t.length : Int))) : Int).toNat).drop ((V.length : Int)).toNat), wrap64 ((V.length : Int) + (t.length : Int)), 0)) else (none)) else (none))) else (none)) else (none)) := by
    unfold frame_Take.f
    rw [hv]
    rfl
  rw [e, Int.toNat_natCast, hw, Int.toNat_natCast, if_pos f1, if_pos f2, if_neg f3, if_pos f4, if_pos f5, hd]
theorem frame_put (l : List Int) (hne : 0 < (textL l).length) (hn : (textL l).length < 1024) (hl : l.length ≤ 1000000) : frame_Put.f l = some (vL (bytesOf (textB l)).length ++ bytesOf (textB l)) := by
  have hle : (bytesOf (textB l)).length = (textL l).length := by rw [bytesOf_length, textB_size]
  have hz : l ≠ [] := by intro e; subst e; simp [textL] at hne
  have hv := vL_len (textL l).length
  unfold frame_Put.f
  rw [if_pos hl, if_neg hz, put_v _ hn 10 (by decide), Option.bind_some, if_pos ⟨by omega, by omega⟩, hle]
end Go.Proofs.Ytcabijajjceghaa.G
