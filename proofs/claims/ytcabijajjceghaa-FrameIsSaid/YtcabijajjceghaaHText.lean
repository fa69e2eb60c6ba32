/- The machine's side of dec.Text, by hand: each value's bytes in UTF-8, U+FFFD for what is no scalar value. No condition but that there are at most a million values. -/
import Derived.Test.YtcabijajjceghaaG0
import Derived.Test.YtcabijajjceghaaHShelf
namespace Go.Proofs.Ytcabijajjceghaa.G
open Go.RowKit Go.Proofs.YtcabijajjceghaaW.PrintWords Go.Proofs.YtcabijajjceghaaW.PrintLast Go.Proofs.YtcabijajjceghaaW.PrintMore
set_option linter.unusedVariables false
set_option linter.unusedSimpArgs false

def goodR (r : Int) : Bool := decide (0 ≤ r) && decide (r ≤ 1114111) && (decide (r < 55296) || decide (r > 57343))
def replR (r : Int) : Int := if goodR r then r else 65533
def textL (l : List Int) : List UInt8 := l.flatMap fun r => Lib.encodeRune (replR r)
theorem good_range {r : Int} (h : goodR r = true) : 0 ≤ r ∧ r ≤ 1114111 := by
  simp [goodR] at h
  exact h.1
theorem textL_snoc (l : List Int) (r : Int) : textL (l ++ [r]) = textL l ++ Lib.encodeRune (replR r) := by simp [textL]
theorem textL_le (l : List Int) : (textL l).length ≤ 4 * l.length := by
  induction l with
  | nil => simp [textL]
  | cons r l ih =>
    have h := Lib.runeCells_le (replR r)
    rw [Lib.runeCells_length] at h
    simp [textL] at ih ⊢
    omega
theorem good_calls (r : Int) (w : World) : Calls Try.prog 44 #[.int .i64 r] w fun e w' => e = .returned (.bool (goodR r)) ∧ w = w' := by
  by_cases h0 : 0 ≤ r <;> by_cases h1 : r ≤ 1114111 <;> by_cases h2 : r < 55296 <;> by_cases h3 : r > 57343 <;>
  first
  | omega
  | (go_enter Try.func44, Try.ntmps44
     go_wp2
     go_ret
     exact ⟨by simp [goodR, h0, h1, h2, h3], rfl⟩)

def dec_Text.f (l0 : List Int) : Option (ByteArray) := if l0.length ≤ 1000000 then some ⟨(textL l0).toArray⟩ else none
set_option maxHeartbeats 4000000 in
set_option maxRecDepth 1000000 in
theorem dec_Text.calls (A0 : Option Addr) (c0 : Nat) (l0 : List Int) (r : ByteArray) (w : World) (hr0 : Kd.C (Kd.int .i64) w A0 l0.length l0) (hc0 : l0.length ≤ c0) (h : dec_Text.f l0 = some r) :
    Calls Try.prog 17 #[.slice A0 l0.length c0] w fun e w' => e = .returned (.string r) ∧ Below w.heap.size w w' := by
  unfold dec_Text.f at h
  by_cases hl : l0.length ≤ 1000000
  rotate_left
  · rw [if_neg hl] at h; cases h
  rw [if_pos hl] at h
  obtain rfl := Option.some.inj h
  clear h hc0
  have HR0 := Aside0.mk hr0
  clear hr0
  go_enter Try.func17, Try.ntmps17
  go_wp2
  go_loopw [8] (fun i wr => ∃ k : Nat, k ≤ l0.length ∧ i = .int .i64 k ∧ Aside0 (Lib.IsBuilderF 73 5 w.heap.size w.heap.size (Lib.byteCells (textL (l0.take k))) wr) ∧ Aside0 (Below w.heap.size w wr)) (fun i wr => l0.length - (intOf i).toNat)
  case atStart => exact ⟨0, by omega, rfl, ⟨Lib.IsBuilderF.of (Lib.fresh_isBuilder 73 5 w)⟩, ⟨(Below.refl _ w).alloc (Nat.le_refl _) _⟩⟩
  case round =>
    obtain ⟨k, hk, rfl, HI, HB⟩ := hrel
    have hlen := textL_le (l0.take k)
    have hlen2 : (l0.take k).length ≤ k := List.length_take_le _ _
    have hsz : w.heap.size ≤ wr.heap.size := HB.out.size
    by_cases hlt : k < l0.length
    · obtain ⟨ad, e0, hx⟩ := Kd.at_int (Kd.C_below HR0.out HB.out) (k : Int) (by omega) (by omega)
      cases e0
      rw [Int.toNat_natCast] at hx
      have HT := Aside0.mk (show textL (l0.take (k + 1)) = textL (l0.take k) ++ Lib.encodeRune (replR (rd l0 (k : Int))) by
        rw [List.take_succ_eq_append_getElem hlt, textL_snoc]
        simp [rd, hlt])
      generalize rd l0 (k : Int) = x at *
      cases hg : goodR x with
      | true =>
        obtain ⟨x0, x1⟩ := good_range hg
        have HG := Aside0.mk hg
        clear hg
        go_wp2_with fail
        refine (good_calls _ _).mono ?_
        rintro e w' ⟨rfl, rfl⟩
        rw [HG.out]
        go_wp2_with fail
        refine (bld_WriteRune w.heap.size w.heap.size _ x (by omega) (by omega) _ HI.out (by rw [Lib.byteCells_length]; omega) hsz).mono ?_
        rintro e W1 ⟨rfl, h1, b1, k1⟩
        have HN := Aside0.mk (show Lib.IsBuilderF 73 5 w.heap.size w.heap.size (Lib.byteCells (textL (l0.take (k + 1)))) W1 by
          rw [HT.out, Lib.byteCells_append, replR, HG.out, if_pos rfl, Lib.byteCells_encodeRune]; exact .inr h1)
        have HB1 := Aside0.mk (HB.out.trans b1)
        clear h1 b1 k1
        go_wp2
        go_roundw
        case rel => exact ⟨k + 1, hlt, by go_num, HN, HB1⟩
        case measure => simp [intOf]; omega
      | false =>
        have HG := Aside0.mk hg
        clear hg
        go_wp2_with fail
        refine (good_calls _ _).mono ?_
        rintro e w' ⟨rfl, rfl⟩
        rw [HG.out]
        go_wp2_with fail
        refine (bld_WriteRune w.heap.size w.heap.size _ 65533 (by omega) (by omega) _ HI.out (by rw [Lib.byteCells_length]; omega) hsz).mono ?_
        rintro e W1 ⟨rfl, h1, b1, k1⟩
        have HN := Aside0.mk (show Lib.IsBuilderF 73 5 w.heap.size w.heap.size (Lib.byteCells (textL (l0.take (k + 1)))) W1 by
          rw [HT.out, Lib.byteCells_append, replR, HG.out, if_neg (by decide), Lib.byteCells_encodeRune]; exact .inr h1)
        have HB1 := Aside0.mk (HB.out.trans b1)
        clear h1 b1 k1
        go_wp2
        go_roundw
        case rel => exact ⟨k + 1, hlt, by go_num, HN, HB1⟩
        case measure => simp [intOf]; omega
    · have HN := Aside0.mk (show Lib.IsBuilderF 73 5 w.heap.size w.heap.size (Lib.byteCells (textL l0)) wr by
        have := HI.out
        rwa [List.take_of_length_le (by omega)] at this)
      go_wp2_with fail
      refine (bld_String w.heap.size w.heap.size (textL l0) _ HN.out hsz).mono ?_
      rintro e W1 ⟨rfl, _, b1, _⟩
      go_wp2
      go_ret
      exact ⟨rfl, HB.out.trans b1⟩
end Go.Proofs.Ytcabijajjceghaa.G
