-- PRINTED by print.py: the row of the law pentroughlaw13_FrameRows, out of its Pure (the session's) and the printed walk. Not trusted: Lean checks it.
import Derived.Test.YtcabijajjceghaaRows
import Derived.Test.YtcabijajjceghaaG38
import Derived.WalkKit
import Derived.ProofKit
import Derived.OpenShut
import Derived.ShutString
import Derived.ChangeOld
import Derived.Below
import Derived.SizedLaws
import Derived.ChangeSlices
import Derived.Test.YtcabijajjceghaaHPut
import Derived.Test.YtcabijajjceghaaG5
import Derived.Test.YtcabijajjceghaaG4
import Derived.Test.YtcabijajjceghaaSeg
import Derived.Test.YtcabijajjceghaaHAll
import Derived.Test.YtcabijajjceghaaG13
import Derived.Lib.Strings
namespace Go.Proofs.YtcabijajjceghaaW.PrintWords
open Go.ChangeShapes Go.WideShapes
/-- A row's slice of whole numbers is no longer than its weight allows. -/
theorem sized_ints {H : Type} {enc : TypeId × Value → H} {P : Program} {W : World} {base : Nat} {spare : Nat → Bool} {held : Bool} {t e : TypeId} {k : IntKind} {a : Option Addr} {len cap : Nat} {d : DataW H} {ps : List MemPlace} {ts : List TypeId} {ds : List (DataW H)} {j : Nat}
    (hsz : (DataW.weightsEach P ts ds).all (· ≤ reachBytes) = true) (ht : ts[j]? = some t) (hd : ds[j]? = some d) (hu : P.underlying t = some (.slice e)) (he : P.underlying e = some (.int k)) (hc : P.cellsOf e = 1) {B : Nat} (hB : P.bytesOf e = B)
    (h : DataW.Trod enc P W base spare held t (.slice a len cap) d ps) : len * B ≤ 140737488351232 := by
  obtain ⟨fuel, hf⟩ := h
  rcases open_ints hu he hc hf with ⟨hcs, _⟩ | ⟨x, l, c, zs, hcs, _, hl, _, hz, hx, _, _⟩
  · simp [Value.cells] at hcs
    obtain ⟨rfl, rfl, rfl⟩ := hcs
    simp
  · simp [Value.cells] at hcs
    obtain ⟨rfl, rfl, rfl⟩ := hcs
    obtain ⟨hx, _⟩ := Prod.mk.inj hx
    subst hx
    have z := sized_slice hsz ht hd hu
    rw [hB] at z
    have hl2 : len ≤ zs.length := by
      rw [hz]
      split
      · exact hl
      · exact Nat.le_refl _
    have h1 : (lits (H := H) k (zs.take len)).length + (lits (H := H) k (zs.drop len)).length = zs.length := by
      simp [lits]
      omega
    rw [h1] at z
    exact Nat.le_trans (Nat.mul_le_mul_right _ hl2) z
end Go.Proofs.YtcabijajjceghaaW.PrintWords

namespace Go.Proofs.Ytcabijajjceghaa.G
open Go.RowKit Go.Proofs.YtcabijajjceghaaW.PrintWords Go.Proofs.YtcabijajjceghaaW.PrintLast Go.Proofs.YtcabijajjceghaaW.PrintMore
set_option linter.unusedVariables false
set_option linter.unusedSimpArgs false

def vL (n : Nat) : List Int := if n < 128 then [(n : Int)] else [((128 + n % 128 : Nat) : Int), ((n / 128 : Nat) : Int)]
theorem put_fin : ∀ n : Fin 1024, varint_Put.f 10 (n.val : Int) = some (vL n.val) := by decide +kernel
theorem put_v (n : Nat) (h : n < 1024) (k : Nat) (hk : 10 ≤ k) : varint_Put.f k (n : Int) = some (vL n) := by
  obtain ⟨d, rfl⟩ : ∃ d, k = 10 + d := ⟨k - 10, by omega⟩
  clear hk
  induction d with
  | zero => exact put_fin ⟨n, h⟩
  | succ d ih => exact varint_Put.mono _ _ _ ih
theorem vL_len (n : Nat) : 1 ≤ (vL n).length ∧ (vL n).length ≤ 2 := by unfold vL; split <;> simp
theorem or1_fin : ∀ n : Fin 128, Go.bits .or .i64 0 (shl .i64 (wrap64 (Go.bits .and .u8 (n.val : Int) 127)) (wrap64 (7 * 0))) = (n.val : Int) := by decide +kernel
theorem or2_fin : ∀ n : Fin 1024, Go.bits .or .i64 (Go.bits .or .i64 0 (shl .i64 (wrap64 (Go.bits .and .u8 ((128 + n.val % 128 : Nat) : Int) 127)) (wrap64 (7 * 0)))) (shl .i64 (wrap64 (Go.bits .and .u8 ((n.val / 128 : Nat) : Int) 127)) (wrap64 (7 * 1))) = (n.val : Int) := by decide +kernel
theorem mn_pos (n : Nat) : mn (n : Int) 4 = ((min n 4 : Nat) : Int) := by unfold mn; split <;> omega
theorem take_v (n : Nat) (h0 : 0 < n) (h : n < 1024) (rest : List Int) (k : Nat) (hk : 3 ≤ k) : varint_Take.f k (vL n ++ rest) = some ((n : Int), ((vL n).length : Int), 0) := by
  obtain ⟨k, rfl⟩ : ∃ d, k = d + 1 + 1 + 1 := ⟨k - 3, by omega⟩
  have w0 : wrap64 (0 + 1) = 1 := by decide +kernel
  have w1 : wrap64 (1 + 1) = 2 := by decide +kernel
  have q0 : 0 ≤ wrap64 (7 * 0) := by decide +kernel
  have q1 : 0 ≤ wrap64 (7 * 1) := by decide +kernel
  unfold varint_Take.f
  rw [mn_pos, Int.toNat_natCast, if_pos (Int.natCast_nonneg _), if_pos (by omega)]
  unfold vL
  by_cases hs : n < 128
  · have o1 := or1_fin ⟨n, hs⟩
    simp only at o1
    rw [if_pos hs]
    obtain ⟨m, hm⟩ : ∃ m, min ([(n : Int)] ++ rest).length 4 = m + 1 := ⟨min ([(n : Int)] ++ rest).length 4 - 1, by simp; omega⟩
    rw [hm, List.singleton_append, List.take_succ_cons]
    have p1 : (0 : Int) < (((n : Int) :: rest.take m).length : Int) := by rw [List.length_cons]; omega
    have r0 : rd ((n : Int) :: rest.take m) 0 = (n : Int) := rfl
    rw [varint_Take.l0, r0, if_pos p1, if_pos (Int.le_refl 0), if_pos p1]
    show (some (Go.bits .and .u8 (n : Int) 127)).bind _ = _
    rw [Option.bind_some, if_pos q0, if_neg (show ¬ ((n : Int) ≥ 128) by omega), if_neg (show ¬ ((n : Int) = 0) by omega), o1, w0]
    rfl
  · have o2 := or2_fin ⟨n, h⟩
    simp only at o2
    rw [if_neg hs]
    obtain ⟨m, hm⟩ : ∃ m, min ([((128 + n % 128 : Nat) : Int), ((n / 128 : Nat) : Int)] ++ rest).length 4 = m + 2 := ⟨min ([((128 + n % 128 : Nat) : Int), ((n / 128 : Nat) : Int)] ++ rest).length 4 - 2, by simp; omega⟩
    rw [hm, List.cons_append, List.singleton_append, List.take_succ_cons, List.take_succ_cons]
    have hx : ((128 + n % 128 : Nat) : Int) ≥ 128 := by omega
    have hy : ¬ (((n / 128 : Nat) : Int) ≥ 128) := by omega
    have hy0 : ¬ (((n / 128 : Nat) : Int) = 0) := by omega
    generalize ((128 + n % 128 : Nat) : Int) = x at *
    generalize ((n / 128 : Nat) : Int) = y at *
    have p1 : (0 : Int) < ((x :: y :: rest.take m).length : Int) := by rw [List.length_cons]; omega
    have p2 : (1 : Int) < ((x :: y :: rest.take m).length : Int) := by rw [List.length_cons, List.length_cons]; omega
    have r0 : rd (x :: y :: rest.take m) 0 = x := rfl
    have r1 : rd (x :: y :: rest.take m) 1 = y := rfl
    rw [varint_Take.l0, r0, if_pos p1, if_pos (Int.le_refl 0), if_pos p1]
    show (some (Go.bits .and .u8 x 127)).bind _ = _
    rw [Option.bind_some, if_pos q0, if_pos hx, w0, varint_Take.l0, r1, if_pos p2, if_pos (show (0 : Int) ≤ 1 by decide), if_pos p2]
    show (some (Go.bits .and .u8 y 127)).bind _ = _
    rw [Option.bind_some, if_pos q1, if_neg hy, if_neg hy0, o2, w1]
    rfl
theorem frame_take (t rest : List Int) (h0 : 0 < t.length) (h : t.length < 1024) (hr : rest.length ≤ 100000) (k : Nat) (hk : 3 ≤ k) : frame_Take.f k (vL t.length ++ t ++ rest) = some (t, (((vL t.length).length + t.length : Nat) : Int), 0) := by
  obtain ⟨v1, v2⟩ := vL_len t.length
  have hv := take_v t.length h0 h (t ++ rest) k hk
  rw [← List.append_assoc] at hv
  have hl : (vL t.length ++ t ++ rest).length = (vL t.length).length + t.length + rest.length := by simp only [List.length_append]
  generalize vL t.length = V at *
  have hw : wrap64 ((V.length : Int) + (t.length : Int)) = ((V.length + t.length : Nat) : Int) := by unfold wrap64; omega
  have hd : ((V ++ t ++ rest).take (V.length + t.length)).drop V.length = t := by
    have : (V ++ t ++ rest).take (V.length + t.length) = V ++ t := List.take_left' (by simp)
    rw [this]; simp
  have hd2 : ((V ++ t ++ rest).drop V.length).length = t.length + rest.length := by rw [List.length_drop, hl]; omega
  have f1 : (0 : Int) ≤ (V.length : Int) := by omega
  have f2 : (V.length : Int) ≤ ((V ++ t ++ rest).length : Int) := by omega
  have f3 : ¬ ((t.length : Int) > (((V ++ t ++ rest).drop V.length).length : Int)) := by omega
  have f4 : (V.length : Int) ≤ ((V.length + t.length : Nat) : Int) := by omega
  have f5 : ((V.length + t.length : Nat) : Int) ≤ ((V ++ t ++ rest).length : Int) := by omega
  have e : frame_Take.f k (V ++ t ++ rest) = (if (0 : Int) ≤ (V.length : Int) then (if (V.length : Int) ≤ ((V ++ t ++ rest).length : Int) then (if (t.length : Int) > (((V ++ t ++ rest).drop ((V.length : Int)).toNat).length : Int) then (some (([] : List Int), 0, 1)) else (if (V.length : Int) ≤ (wrap64 ((V.length : Int) + (t.length : Int))) then (if (wrap64 ((V.length : Int) + (t.length : Int))) ≤ ((V ++ t ++ rest).length : Int) then (some ((((V ++ t ++ rest).take ((wrap64 ((V.length : Int) + (t.length : Int))) : Int).toNat).drop ((V.length : Int)).toNat), wrap64 ((V.length : Int) + (t.length : Int)), 0)) else (none)) else (none))) else (none)) else (none)) := by
    unfold frame_Take.f
    rw [hv]
    rfl
  rw [e, Int.toNat_natCast, hw, Int.toNat_natCast, if_pos f1, if_pos f2, if_neg f3, if_pos f4, if_pos f5, hd]
theorem frame_put (l : List Int) (hne : 0 < (textL l).length) (hn : (textL l).length < 1024) (hl : l.length ≤ 1000000) : frame_Put.f l = some (vL (bytesOf (textB l)).length ++ bytesOf (textB l)) := by
  have hle : (bytesOf (textB l)).length = (textL l).length := by rw [bytesOf_length, textB_size]
  have hz : l ≠ [] := by intro e; subst e; simp [textL] at hne
  have hv := vL_len (textL l).length
  unfold frame_Put.f
  rw [if_pos hl, if_neg hz, put_v _ hn 10 (by decide), Option.bind_some, if_pos ⟨by omega, by omega⟩, hle]
end Go.Proofs.Ytcabijajjceghaa.G

namespace Go.Proofs.Ytcabijajjceghaa.G
open Go.RowKit Go.Proofs.YtcabijajjceghaaW.PrintWords Go.Proofs.YtcabijajjceghaaW.PrintLast Go.Proofs.YtcabijajjceghaaW.PrintMore
set_option linter.unusedVariables false
set_option linter.unusedSimpArgs false

theorem sane_nextK_fin : ∀ g : Fin 15, ∀ p o : Bool, ∀ q : Bool, saneC ⟨true, (g.val : Int), if (g.val : Int) = 14 then true else if (g.val : Int) = 4 ∨ (g.val : Int) = 5 then p && q else false, if (g.val : Int) = 6 then o else false⟩ = true := by decide +kernel
theorem sane_nextK (s : CS) (g : Int) (h0 : 0 ≤ g) (h1 : g ≤ 14) : saneC (nextK s g) = true := by
  have := sane_nextK_fin ⟨g.toNat, by omega⟩ (if saneC s then s else c0).pict (!(if saneC s then s else c0).odd) ((if saneC s then s else c0).kind != 5)
  simp only [Int.toNat_of_nonneg h0] at this
  exact this
theorem sane_nextS (s : CS) (r : Int) : saneC (nextS s r) = true := sane_nextK s _ (gcb_range r).1 (gcb_range r).2
theorem next_on (s : CS) (r : Int) : (nextS s r).on = true := rfl
theorem saneG_c0 : saneG [] c0 = true := by decide
theorem saneG_one (s : CS) (r : Int) : saneG [r] (nextS s r) = true := by simp [saneG, sane_nextS, next_on]
theorem saneG_more (C : List Int) (s : CS) (r : Int) (h : saneG C s = true) (hf : fullP C.length s r = false) : saneG (C ++ [r]) (nextS s r) = true := by
  have h1 : C.length ≤ 32 := by
    simp only [saneG, Bool.and_eq_true, decide_eq_true_eq] at h
    exact h.1
  have h2 : (C ++ [r]).length ≤ 32 := by
    rw [List.length_append]
    simp only [fullP, Bool.and_eq_false_iff, Bool.or_eq_false_iff, decide_eq_false_iff_not] at hf
    simp only [List.length_cons, List.length_nil]
    omega
  unfold saneG
  rw [decide_eq_true h2, sane_nextS, next_on]
  simp
/-- One step, of a state that is sane. -/
theorem allP_cons (C : List Int) (s : CS) (r : Int) (t : List Int) (h : saneG C s = true) : allP C s (r :: t) = if fullP C.length s r = true then C :: allP [r] (nextS s r) t else allP (C ++ [r]) (nextS s r) t := by
  rw [allP]
  unfold feedP
  rw [if_pos h]
  by_cases hf : fullP C.length s r = true
  · have hne : C ≠ [] := by intro e; subst e; simp [fullP] at hf
    simp [hf, hne]
  · simp [hf]
theorem join_allP (l : List Int) : ∀ C s, saneG C s = true → (allP C s l).flatten = C ++ l := by
  induction l with
  | nil => intro C s _; unfold allP; by_cases h : C = [] <;> simp [h]
  | cons r t ih =>
    intro C s h
    rw [allP_cons C s r t h]
    by_cases hf : fullP C.length s r = true
    · rw [if_pos hf, List.flatten_cons, ih _ _ (saneG_one s r)]; simp
    · rw [if_neg hf, ih _ _ (saneG_more C s r h (by simpa using hf))]; simp
theorem len_allP (l : List Int) : ∀ C s, saneG C s = true → ∀ x ∈ allP C s l, 1 ≤ x.length ∧ x.length ≤ 32 := by
  have hC : ∀ (C : List Int) (s : CS), saneG C s = true → C ≠ [] → 1 ≤ C.length ∧ C.length ≤ 32 := by
    intro C s h hne
    simp only [saneG, Bool.and_eq_true, decide_eq_true_eq] at h
    exact ⟨List.length_pos_iff.2 hne, h.1⟩
  induction l with
  | nil =>
    intro C s h x hx
    unfold allP at hx
    by_cases hc : C = []
    · simp [hc] at hx
    · simp [hc] at hx; subst hx; exact hC _ _ h hc
  | cons r t ih =>
    intro C s h x hx
    rw [allP_cons C s r t h] at hx
    by_cases hf : fullP C.length s r = true
    · rw [if_pos hf] at hx
      have hne : C ≠ [] := by intro e; subst e; simp [fullP] at hf
      rcases List.mem_cons.1 hx with rfl | hx
      · exact hC _ _ h hne
      · exact ih _ _ (saneG_one s r) x hx
    · rw [if_neg hf] at hx
      exact ih _ _ (saneG_more C s r h (by simpa using hf)) x hx
theorem count_le (L : List (List Int)) (h : ∀ x ∈ L, 1 ≤ x.length) : L.length ≤ L.flatten.length := by
  induction L with
  | nil => simp
  | cons a L ih =>
    have h1 := h a (by simp)
    have h2 := ih (fun x hx => h x (by simp [hx]))
    rw [List.flatten_cons, List.length_append, List.length_cons]
    omega
theorem count_allP (l : List Int) : (allP [] c0 l).length ≤ l.length := by
  have := count_le _ (fun x hx => (len_allP l [] c0 saneG_c0 x hx).1)
  rwa [join_allP l [] c0 saneG_c0, List.nil_append] at this
/-- The first cluster, and what is behind it. -/
theorem head_allP (l : List Int) : ∀ C s, saneG C s = true → C ≠ [] → ∃ m, m ≤ l.length ∧ C.length + m ≤ 32 ∧ (∀ j, j < m → (cuts s l)[j]? = some false) ∧
    ((m = l.length ∧ allP C s l = [C ++ l]) ∨ ∃ x t s', l.drop m = x :: t ∧ ((cuts s l)[m]? = some true ∨ C.length + m = 32) ∧ (cuts s l).drop (m + 1) = cuts s' t ∧ saneG [x] s' = true ∧ allP C s l = (C ++ l.take m) :: allP [x] s' t) := by
  induction l with
  | nil =>
    intro C s h hne
    simp only [saneG, Bool.and_eq_true, decide_eq_true_eq] at h
    exact ⟨0, by simp, by omega, fun j hj => by omega, .inl ⟨rfl, by unfold allP; simp [hne]⟩⟩
  | cons r t ih =>
    intro C s h hne
    have hcons : cuts s (r :: t) = endsS s r :: cuts (nextS s r) t := rfl
    rw [allP_cons C s r t h, hcons]
    have hl : C.length ≤ 32 := by
      simp only [saneG, Bool.and_eq_true, decide_eq_true_eq] at h
      exact h.1
    have hp : 0 < C.length := List.length_pos_iff.2 hne
    by_cases hf : fullP C.length s r = true
    · rw [if_pos hf]
      refine ⟨0, by simp, by omega, fun j hj => by omega, .inr ⟨r, t, nextS s r, rfl, ?_, by simp, saneG_one s r, by simp⟩⟩
      simp only [fullP, Bool.and_eq_true, Bool.or_eq_true, decide_eq_true_eq] at hf
      rcases hf.2 with h1 | h1
      · exact .inr (by omega)
      · exact .inl (by simp [h1])
    · rw [if_neg hf]
      have hf' : fullP C.length s r = false := by simpa using hf
      obtain ⟨m, h1, h2, h3, h4⟩ := ih (C ++ [r]) (nextS s r) (saneG_more C s r h hf') (by simp)
      have hnc : endsS s r = false := by
        simp only [fullP, Bool.and_eq_false_iff, Bool.or_eq_false_iff, decide_eq_false_iff_not] at hf'
        rcases hf' with h5 | h5
        · omega
        · exact h5.2
      refine ⟨m + 1, by simpa using h1, by simp at h2; omega, fun j hj => ?_, ?_⟩
      · cases j with
        | zero => simp [hnc]
        | succ j => simpa using h3 j (by omega)
      · rcases h4 with ⟨h5, h6⟩ | ⟨x, t', s', h5, h6, h7, h8, h9⟩
        · exact .inl ⟨by simp [h5], by rw [h6]; simp⟩
        · refine .inr ⟨x, t', s', by simpa using h5, ?_, by simpa using h7, h8, by rw [h9]; simp⟩
          rcases h6 with h6 | h6
          · exact .inl (by simpa using h6)
          · exact .inr (by simp at h6; omega)

theorem same01_loop (a : List Int) (hl : a.length < 140737488355328) : ∀ (d i k : Nat), a.length = i + d → d < k → pentroughref01_Same.l0 k a a (i : Int) = some true := by
  intro d
  induction d with
  | zero =>
    intro i k hi hk
    obtain ⟨k, rfl⟩ : ∃ m, k = m + 1 := ⟨k - 1, by omega⟩
    simp only [pentroughref01_Same.l0]
    rw [if_neg (by omega)]
  | succ d ih =>
    intro i k hi hk
    obtain ⟨k, rfl⟩ : ∃ m, k = m + 1 := ⟨k - 1, by omega⟩
    have hw : wrap64 ((i : Int) + 1) = ((i + 1 : Nat) : Int) := by unfold wrap64; omega
    simp only [pentroughref01_Same.l0]
    rw [if_pos (by omega), if_pos (by omega), if_pos (by omega), hw]
    simp only [if_true]
    exact ih (i + 1) k (by omega) (by omega)
theorem same01 (a : List Int) (k : Nat) (hl : a.length < 140737488355328) (hk : a.length < k) : pentroughref01_Same.f k a a = some true := by
  unfold pentroughref01_Same.f
  rw [if_pos rfl]
  exact same01_loop a hl a.length 0 k (by omega) hk
end Go.Proofs.Ytcabijajjceghaa.G

namespace Go.Proofs.Ytcabijajjceghaa.Pure
open Go.RowKit Go.Proofs.Ytcabijajjceghaa.G Go.Proofs.YtcabijajjceghaaW.PrintWords Go.Proofs.YtcabijajjceghaaW.PrintLast

theorem awake13w : pentroughlaw13_awake.f 2000 = some true := by decide +kernel
def fr (c : List Int) : List Int := vL (bytesOf (textB c)).length ++ bytesOf (textB c)
theorem strOf (s : ByteArray) : strOfNums (bytesOf s) = s := by
  apply ByteArray.ext
  apply Array.toList_inj.1
  unfold strOfNums bytesOf
  simp only [List.map_map]
  have : (fun n : Int => UInt8.ofNat n.toNat) ∘ (fun b : UInt8 => (b.toNat : Int)) = id := by funext b; simp
  rw [this]
  simp
theorem enc_pos (r : Int) : 0 < (Lib.encodeRune r).length := by
  unfold Lib.encodeRune Lib.encodeRuneZ
  rw [List.length_map]
  repeat' split
  all_goals simp
theorem text_pos (c : List Int) (h : 1 ≤ c.length) : 0 < (textL c).length := by
  cases c with
  | nil => simp at h
  | cons x t =>
    have := enc_pos (replR x)
    unfold textL
    rw [List.flatMap_cons, List.length_append]
    omega
theorem textL_append (a b : List Int) : textL (a ++ b) = textL a ++ textL b := by simp [textL]
theorem textB_append (a b : List Int) : textB a ++ textB b = textB (a ++ b) := by
  apply ByteArray.ext
  apply Array.toList_inj.1
  unfold textB
  rw [textL_append]
  simp [ByteArray.data_append]
/-- What is wanted of a cluster. -/
def okC (c : List Int) : Prop := 1 ≤ c.length ∧ c.length ≤ 32
theorem bl (c : List Int) (h : okC c) : 0 < (bytesOf (textB c)).length ∧ (bytesOf (textB c)).length ≤ 128 ∧ (bytesOf (textB c)).length = (textL c).length := by
  have h1 := text_pos c h.1
  have h2 := textL_le c
  have h3 : (bytesOf (textB c)).length = (textL c).length := by rw [bytesOf_length, textB_size]
  have := h.2
  omega
theorem fr_put (c : List Int) (h : okC c) : frame_Put.f c = some (fr c) := by
  have := bl c h
  have := h.2
  exact frame_put c (by omega) (by omega) (by omega)
theorem fr_len (c : List Int) (h : okC c) : 2 ≤ (fr c).length ∧ (fr c).length ≤ 130 := by
  have h1 := bl c h
  have h2 := vL_len (bytesOf (textB c)).length
  unfold fr
  rw [List.length_append]
  omega
theorem flat_len (L : List (List Int)) (h : ∀ c ∈ L, okC c) : (L.map fr).flatten.length ≤ 130 * L.length := by
  induction L with
  | nil => simp
  | cons c L ih =>
    have h1 := fr_len c (h c (by simp))
    have h2 := ih (fun x hx => h x (by simp [hx]))
    rw [List.map_cons, List.flatten_cons, List.length_append, List.length_cons]
    omega
theorem all_loop (x0 : List Int) : ∀ (L : List (List Int)) (acc : List ByteArray) (k : Nat), (∀ c ∈ L, okC c) → L.length ≤ 200 → acc.length + L.length ≤ 200 → L.length + 5 ≤ k →
    frame_All.l0 k x0 acc (L.map fr).flatten = some (acc ++ L.map textB, (x0.length : Int), 0) := by
  intro L
  induction L with
  | nil =>
    intro acc k _ _ _ hk
    obtain ⟨k, rfl⟩ : ∃ m, k = m + 1 := ⟨k - 1, by omega⟩
    rw [List.map_nil, List.flatten_nil, frame_All.l0, if_neg (by simp)]
    simp
  | cons c L ih =>
    intro acc k h hl ha hk
    obtain ⟨k, rfl⟩ : ∃ m, k = m + 1 := ⟨k - 1, by omega⟩
    have hc := h c (by simp)
    have hL : ∀ x ∈ L, okC x := fun x hx => h x (by simp [hx])
    obtain ⟨b1, b2, b3⟩ := bl c hc
    have hf := fr_len c hc
    have hfl := flat_len L hL
    rw [List.length_cons] at hl ha hk
    have ht := frame_take (bytesOf (textB c)) (L.map fr).flatten b1 (by omega) (by omega) k (by omega)
    have hn := ih (acc ++ [textB c]) k hL (by omega) (by rw [List.length_append, List.length_singleton]; omega) (by omega)
    have hd : (fr c ++ (L.map fr).flatten).drop ((vL (bytesOf (textB c)).length).length + (bytesOf (textB c)).length) = (L.map fr).flatten := by
      have e : (vL (bytesOf (textB c)).length).length + (bytesOf (textB c)).length = (fr c).length := by unfold fr; rw [List.length_append]
      rw [e, List.drop_left]
    have hsz : (fr c).length = (vL (bytesOf (textB c)).length).length + (bytesOf (textB c)).length := by unfold fr; rw [List.length_append]
    change frame_Take.f k (fr c ++ (L.map fr).flatten) = _ at ht
    rw [List.map_cons, List.flatten_cons]
    have g0 : ((fr c ++ (L.map fr).flatten).length : Int) > 0 := by rw [List.length_append]; omega
    have g1 : acc.length < 8796093022208 := Nat.lt_of_le_of_lt (show acc.length ≤ 200 by omega) (by decide)
    have g2 : (0 : Int) ≤ (((vL (bytesOf (textB c)).length).length + (bytesOf (textB c)).length : Nat) : Int) := Int.natCast_nonneg _
    have g3 : (((vL (bytesOf (textB c)).length).length + (bytesOf (textB c)).length : Nat) : Int) ≤ ((fr c ++ (L.map fr).flatten).length : Int) := by rw [List.length_append]; omega
    rw [frame_All.l0, if_pos g0, ht, Option.bind_some]
    show (if acc.length < 8796093022208 then (if (0 : Int) ≤ (((vL (bytesOf (textB c)).length).length + (bytesOf (textB c)).length : Nat) : Int) then (if (((vL (bytesOf (textB c)).length).length + (bytesOf (textB c)).length : Nat) : Int) ≤ ((fr c ++ (L.map fr).flatten).length : Int) then (frame_All.l0 k x0 (acc ++ [strOfNums (bytesOf (textB c))]) ((fr c ++ (L.map fr).flatten).drop ((((vL (bytesOf (textB c)).length).length + (bytesOf (textB c)).length : Nat) : Int)).toNat)) else none) else none) else none) = _
    rw [if_pos g1, if_pos g2, if_pos g3, Int.toNat_natCast, hd, strOf, hn]
    simp
theorem flat_take (L : List (List Int)) (i : Nat) : (L.take i).flatten.length ≤ L.flatten.length := by
  have e : L.flatten.length = (L.take i).flatten.length + (L.drop i).flatten.length := by rw [← List.length_append, ← List.flatten_append, List.take_append_drop]
  omega
theorem rows_l1 (x0 : List Int) (L : List (List Int)) (hL : ∀ c ∈ L, okC c) (hj : L.flatten = x0) (h0 : x0.length ≤ 120) (hn : L.length ≤ 120) : ∀ (d i k : Nat), L.length = i + d →
    pentroughlaw13_FrameRows.l1 (k + d + 1) x0 true L (L.map textB) (textB (L.take i).flatten) (i : Int) = some true := by
  intro d
  induction d with
  | zero =>
    intro i k hi
    have hd : dec_Text.f x0 = some (textB x0) := by unfold dec_Text.f; rw [if_pos (by omega)]; rfl
    have f1 : ¬ ((i : Int) < ((L.map textB).length : Int)) := by rw [List.length_map]; omega
    rw [Nat.add_zero, pentroughlaw13_FrameRows.l1, if_neg f1, if_pos rfl, hd, Option.bind_some, List.take_of_length_le (by omega), hj]
    simp
  | succ d ih =>
    intro i k hi
    have hlt : i < L.length := by omega
    have hc := hL L[i] (List.getElem_mem hlt)
    have hrd : rd_L2 L (i : Int) = L[i] := by simp [rd_L2, hlt]
    have hrt : rdOf ByteArray.empty (L.map textB) (i : Int) = textB L[i] := by simp [rdOf, hlt]
    have hd : dec_Text.f L[i] = some (textB L[i]) := by unfold dec_Text.f; rw [if_pos (by have := hc.2; omega)]; rfl
    have hw : wrap64 ((i : Int) + 1) = ((i + 1 : Nat) : Int) := by unfold wrap64; omega
    obtain ⟨b1, b2, b3⟩ := bl L[i] hc
    have hne : ¬ ((textB L[i]).toList = ([] : List UInt8)) := by
      rw [ByteArray.toList_eq]
      intro e
      have hz : textL L[i] = [] := by simpa [textB] using e
      rw [hz, List.length_nil] at b3
      omega
    have hs : (textB (L.take i).flatten).size + (textB L[i]).size ≤ 9223372036854775807 := by
      rw [textB_size, textB_size]
      have h1 := textL_le (L.take i).flatten
      have h2 := flat_take L i
      rw [hj] at h2
      exact Nat.le_trans (show (textL (L.take i).flatten).length + (textL L[i]).length ≤ 1000 by omega) (by decide)
    have e2 : textB (L.take i).flatten ++ textB L[i] = textB (L.take (i + 1)).flatten := by rw [textB_append, List.take_succ_eq_append_getElem hlt, List.flatten_append]; simp
    have f1 : (i : Int) < ((L.map textB).length : Int) := by rw [List.length_map]; omega
    have f0 : (0 : Int) ≤ (i : Int) := Int.natCast_nonneg _
    have f2 : (i : Int) < (L.length : Int) := by omega
    have hnx := ih (i + 1) k (by omega)
    rw [show k + (d + 1) + 1 = (k + d + 1) + 1 by omega, pentroughlaw13_FrameRows.l1, hrd, hrt, hd, hw, if_pos f1, if_pos f0, if_pos f2, Option.bind_some, if_pos rfl, if_neg hne, if_pos hs, e2]
    exact hnx
theorem rows_l0 (x0 : List Int) (L : List (List Int)) (hL : ∀ c ∈ L, okC c) (hj : L.flatten = x0) (h0 : x0.length ≤ 120) (hn : L.length ≤ 120) : ∀ (d i k : Nat), L.length = i + d → 300 ≤ k →
    pentroughlaw13_FrameRows.l0 (k + d + 1) x0 true L ((L.take i).map fr).flatten (i : Int) = some true := by
  intro d
  induction d with
  | zero =>
    intro i k hi hk
    have ha : frame_All.f k (L.map fr).flatten = some (L.map textB, ((L.map fr).flatten.length : Int), 0) := all_loop _ L [] k hL (by omega) (by rw [List.length_nil]; omega) (by omega)
    have hb : (((L.map textB).length : Int) != (L.length : Int)) = false := by rw [List.length_map]; simp
    obtain ⟨k, rfl⟩ : ∃ m, k = (m + L.length + 1) + 1 := ⟨k - L.length - 2, by omega⟩
    have hend := rows_l1 x0 L hL hj h0 hn L.length 0 k (by omega)
    have f1 : ¬ ((i : Int) < (L.length : Int)) := by omega
    rw [Nat.add_zero, pentroughlaw13_FrameRows.l0, if_neg f1, List.take_of_length_le (by omega), ha, Option.bind_some]
    show (if (0 : Int) = 0 then (if ((L.map fr).flatten.length : Int) = ((L.map fr).flatten.length : Int) then (pentroughlaw13_FrameRows.j1 (k + L.length + 1 + 1) x0 true L (L.map textB) (((L.map textB).length : Int) != (L.length : Int))) else _) else _) = _
    rw [if_pos rfl, if_pos rfl, hb, pentroughlaw13_FrameRows.j1, if_neg (show ¬ (false = true) by simp)]
    exact hend
  | succ d ih =>
    intro i k hi hk
    have hlt : i < L.length := by omega
    have hc := hL L[i] (List.getElem_mem hlt)
    have hrd : rd_L2 L (i : Int) = L[i] := by simp [rd_L2, hlt]
    have hw : wrap64 ((i : Int) + 1) = ((i + 1 : Nat) : Int) := by unfold wrap64; omega
    have hf := fr_len L[i] hc
    have hfl := flat_len (L.take i) (fun c hx => hL c (List.mem_of_mem_take hx))
    have ht : (L.take i).length ≤ 120 := by rw [List.length_take]; omega
    have f2 : ((L.take i).map fr).flatten.length + (fr L[i]).length < 140737488355328 := Nat.lt_of_le_of_lt (show ((L.take i).map fr).flatten.length + (fr L[i]).length ≤ 20000 by omega) (by decide)
    have e2 : ((L.take i).map fr).flatten ++ fr L[i] = ((L.take (i + 1)).map fr).flatten := by rw [List.take_succ_eq_append_getElem hlt, List.map_append, List.flatten_append]; simp
    have f1 : (i : Int) < (L.length : Int) := by omega
    have f0 : (0 : Int) ≤ (i : Int) := Int.natCast_nonneg _
    have hnx := ih (i + 1) k (by omega) hk
    rw [show k + (d + 1) + 1 = (k + d + 1) + 1 by omega, pentroughlaw13_FrameRows.l0, hrd, fr_put L[i] hc, hw, if_pos f1, if_pos f0, Option.bind_some, if_pos f2, e2]
    exact hnx

theorem FrameRows : pentroughlaw13_FrameRows.Pure := by
  intro l q1 q2 q3
  clear q1 q2 q3
  refine ⟨2000, ?_⟩
  unfold pentroughlaw13_FrameRows.f
  rw [awake13w]
  simp only [Option.bind_some]
  by_cases h : (l.length : Int) > 120
  · rw [if_pos h]
  rw [if_neg h]
  have ha : seg_All.f l = some (allP [] c0 l) := by unfold seg_All.f; rw [if_pos (by omega)]
  have hc := count_allP l
  rw [ha, Option.bind_some]
  have := rows_l0 l (allP [] c0 l) (fun c hx => len_allP l [] c0 saneG_c0 c hx) (by rw [join_allP l [] c0 saneG_c0]; rfl) (by omega) (by omega) (allP [] c0 l).length 0 (1999 - (allP [] c0 l).length) (by omega) (by omega)
  rw [show 1999 - (allP [] c0 l).length + (allP [] c0 l).length + 1 = 2000 by omega] at this
  exact this
end Go.Proofs.Ytcabijajjceghaa.Pure

namespace Go.Proofs.Ytcabijajjceghaa.frameRows
open Go.ChangeShapes Go.WideShapes Go.ChangeAt Go.RowKit
open Go.ChangeMaps (open_string shut_string)
set_option linter.unusedVariables false
theorem own : ownKnob Try.prog.godebug = none := by kernel_rfl
theorem laidOut : laidOutB Try.prog = true := by kernel_rfl
def IsRow (k : IntKind) (w : World) (a : Option Addr) (len cap : Nat) (zs : List Int) : Prop :=
  (a = none ∧ len = 0 ∧ cap = 0 ∧ zs = []) ∨
  ∃ x, a = some x ∧ len ≤ cap ∧ cap ≤ maxLen ∧ zs.length = cap ∧ (∀ i, i < zs.length → w.cell? (x.add i) = some (.int k (zs.getD i 0))) ∧ ∀ n ∈ zs, (Lit.int k n).wf = true
set_option maxRecDepth 100000 in
theorem lifted (os : Os) (started : os.Started) (H : Type) (enc : TypeId × Value → H) :
    ReturnsInHanded {} Try.checked os 13 .any (Rows.frameRowsSpec.pre6 enc Try.prog Try.f13 Rows.frameRowsRow.domain false) (Rows.frameRowsSpec.post enc Try.prog Try.f13 false true false false) := by
  refine returnsInHanded_of_change_sized (C := Try.checked) own started (by kernel_rfl) Try.func13
    (ChangeSpec.witness6 (enc := enc) (C := Try.checked) false ⟨#[], #[.slice none 0 0], []⟩ 8 (by kernel_rfl) (by kernel_rfl) (by kernel_rfl) (by kernel_rfl)) ?_
  intro W base args ds gs before hval0 hW hcnd hsz0 _
  have hsz : (DataW.weightsEach Try.prog (Try.f13.params.toList ++ Rows.frameRowsSpec.plain.varTypes Try.prog) (ds ++ gs)).all (· ≤ reachBytes) = true := hsz0
  have hval : ∀ (j : Nat) t v, Try.f13.params[j]? = some t → args[j]? = some v → Value.okWide Try.prog W .any base t v := hval0
  have hW' := hW
  obtain ⟨p, q, hA0, hV, rfl, hfz, hnd⟩ := hW
  have hA : DataW.TrodAll enc Try.prog W 0 (fun _ => true) true Try.f13.params.toList args.toList ds p := hA0
  rw [Try.params13] at hA hval hsz
  obtain ⟨v0, vs0, d0, ds0, p0, q0, hargs, rfl, rfl, h0, r0⟩ := trodAll_cons hA
  obtain ⟨rfl, rfl, rfl⟩ := trodAll_nil r0
  obtain rfl : args = #[v0] := by cases args; simp_all
  obtain ⟨rfl, rfl⟩ := trodVars_none hV
  obtain ⟨a0, len0, cap0, rfl⟩ := okWide_slice Try.underlying22 (hval 0 22 v0 rfl rfl)
  have k0 := h0
  have lt0 : ∀ x ∈ p0, x.block < W.heap.size := by obtain ⟨m, hm⟩ := k0; exact DataW.trod_lt m _ _ _ hm
  obtain ⟨z0, w0⟩ : ∃ zs, IsRow .i64 W a0 len0 cap0 zs := by
    obtain ⟨fuel, hf⟩ := h0
    rcases open_ints Try.underlying22 Try.underlying3 (by kernel_rfl) hf with ⟨hcs, _⟩ | ⟨x, l, c, zs, hcs, _, hl, hm, hz, _, hcell, hwz⟩
    · simp [Value.cells] at hcs
      obtain ⟨rfl, rfl, rfl⟩ := hcs
      exact ⟨[], .inl ⟨rfl, rfl, rfl, rfl⟩⟩
    · simp [Value.cells] at hcs
      obtain ⟨rfl, rfl, rfl⟩ := hcs
      exact ⟨zs, .inr ⟨_, rfl, hl, hm, by simpa using hz, hcell, hwz⟩⟩
  have y0 : len0 * 8 ≤ 140737488351232 := Go.Proofs.YtcabijajjceghaaW.PrintWords.sized_ints hsz (j := 0) (t := 22) rfl rfl Try.underlying22 Try.underlying3 (by kernel_rfl) (by kernel_rfl) h0
  clear hA0 hval0 hsz0 hsz
  refine (G.pentroughlaw13_FrameRows.walk Pure.FrameRows a0 len0 cap0 z0 W w0 y0).mono fun e W' ⟨he, bel⟩ => ?_
  subst he
  exact ⟨_, rfl, _, _, _, [], _, [], hW', trodAll_mk1 (shut_bool Try.underlying4 _), (trodAll_cons_mk (Below.trod laidOut (by kernel_rfl) (of_decide_eq_true (by kernel_rfl)) k0 bel lt0) trodAll_mk0), rfl, bel.frame _, fun h => by cases h⟩
theorem over : Rows.frameRowsRow.holds Try.pinned (OpenSpec.ofChange Rows.frameRowsSpec) :=
  OpenClaim.holds_of_wide 13 Try.f13 rfl rfl rfl rfl rfl rfl rfl ⟨rfl, rfl, rfl, rfl, rfl⟩ rfl rfl rfl rfl rfl (by kernel_rfl) Try.func13 (by kernel_rfl)
    (of_decide_eq_true (by kernel_rfl)) (by unfold Func.isWrapper; first | (rw [if_pos (by decide +kernel)]; kernel_rfl) | (rw [if_neg (by decide +kernel)]; exact ⟨rfl, rfl⟩))
    (fun os started H enc _ => lifted os started H enc)
theorem proved : Rows.FrameRowsSaid := over
#print axioms proved
end Go.Proofs.Ytcabijajjceghaa.frameRows
namespace Go.Proofs.Ytcabijajjceghaa
/-- The row, under a short name, for the claim. -/
theorem frameRows_holds : Rows.FrameRowsSaid := frameRows.proved
end Go.Proofs.Ytcabijajjceghaa
