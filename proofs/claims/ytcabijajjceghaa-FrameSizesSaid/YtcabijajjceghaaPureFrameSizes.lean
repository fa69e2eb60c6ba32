/- How long a frame is. No condition. -/
import Derived.Test.YtcabijajjceghaaG34
import Derived.Test.YtcabijajjceghaaFrameP
import Derived.Test.YtcabijajjceghaaTabs
namespace Go.Proofs.Ytcabijajjceghaa.Pure
open Go.RowKit Go.Proofs.Ytcabijajjceghaa.G Go.Proofs.YtcabijajjceghaaW.PrintWords Go.Proofs.YtcabijajjceghaaW.PrintLast

theorem awake13s : pentroughlaw13_awake.f 1000 = some true := by decide +kernel
theorem sizes_end (x1 : Int) (l : List Int) (i : Int) (k : Nat) (hk : 20 ≤ k) (hi : ¬ (i < (Go.bits .and .i64 x1 63))) (h0 : 0 < (textL l).length) (h1 : (textL l).length < 1024) (hl : l.length ≤ 1000000) :
    pentroughlaw13_FrameSizes.l0 (k + 1) x1 true l i = some true := by
  have hp := frame_put l h0 h1 hl
  have hd : dec_Text.f l = some (textB l) := by unfold dec_Text.f; rw [if_pos hl]; rfl
  have hn : (textB l).size = (textL l).length := textB_size l
  have hb : (bytesOf (textB l)).length = (textL l).length := by rw [bytesOf_length, hn]
  obtain ⟨v1, v2⟩ := vL_len (textL l).length
  have ht := frame_take (bytesOf (textB l)) [] (by omega) (by omega) (by simp) k (by omega)
  rw [List.append_nil] at ht
  have hv := take_v (bytesOf (textB l)).length (by omega) (by omega) (bytesOf (textB l)) k (by omega)
  have hs : varint_Size.f k ((textB l).size : Int) = some ((vL (textL l).length).length : Int) := by
    unfold varint_Size.f
    rw [hn, put_v _ h1 k (by omega)]
    rfl
  rw [hb] at hp ht hv
  have hw : wrap64 (((textB l).size : Int) + ((vL (textL l).length).length : Int)) = (((vL (textL l).length ++ bytesOf (textB l)).length : Nat) : Int) := by rw [hn, List.length_append, hb]; unfold wrap64; omega
  have ha : (vL (textL l).length ++ bytesOf (textB l)).length = (vL (textL l).length).length + (textL l).length := by rw [List.length_append, hb]
  rw [pentroughlaw13_FrameSizes.l0, if_neg hi, hp, Option.bind_some, hd, Option.bind_some, hv, Option.bind_some, ht, Option.bind_some, if_pos rfl, hs, Option.bind_some, hw]
  rw [if_pos rfl]
  show (if ((textL l).length : Int) = ((textB l).size : Int) then _ else _) = _
  rw [if_pos (by rw [hn]), Option.bind_some]
  show (if ((vL (textL l).length).length : Int) = ((vL (textL l).length).length : Int) then _ else _) = _
  rw [if_pos rfl]
  show (if ((bytesOf (textB l)).length : Int) = ((textB l).size : Int) then _ else _) = _
  rw [if_pos (by rw [hb, hn])]
  show some ((((vL (textL l).length).length + (textL l).length : Nat) : Int) == ((vL (textL l).length ++ bytesOf (textB l)).length : Int)) = _
  rw [ha]
  simp
theorem sizes_l0 (x1 : Int) (q : Nat) (hq : q < 64) (ex : Go.bits .and .i64 x1 63 = (q : Int)) : ∀ (d i k : Nat) (acc : List Int), q = i + d → 20 ≤ k → acc.length ≤ 101 + i → 0 < (textL acc).length →
    pentroughlaw13_FrameSizes.l0 (k + d + 1) x1 true acc (i : Int) = some true := by
  intro d
  induction d with
  | zero =>
    intro i k acc hi hk ha h0
    have := textL_le acc
    exact sizes_end x1 acc (i : Int) k hk (by rw [ex]; omega) h0 (by omega) (by omega)
  | succ d ih =>
    intro i k acc hi hk ha h0
    have f2 : acc.length < 17592186044416 := Nat.lt_trans (show acc.length < 2000 by omega) (by decide)
    have f1 : (i : Int) < Go.bits .and .i64 x1 63 := by rw [ex]; omega
    have hn := ih (i + 1) k (acc ++ [8364]) (by omega) hk (by rw [List.length_append, List.length_singleton]; omega) (by rw [textL_snoc, List.length_append]; omega)
    have hw : wrap64 ((i : Int) + 1) = ((i + 1 : Nat) : Int) := by unfold wrap64; omega
    rw [show k + (d + 1) + 1 = (k + d + 1) + 1 by omega, pentroughlaw13_FrameSizes.l0, if_pos f1, if_pos f2, hw]
    exact hn

theorem FrameSizes : pentroughlaw13_FrameSizes.Pure := by
  intro l a q1 q2 q3 q4
  clear q1 q2 q3 q4
  refine ⟨1000, ?_⟩
  unfold pentroughlaw13_FrameSizes.f
  rw [awake13s]
  simp only [Option.bind_some]
  by_cases h : (l.length : Int) > 100
  · rw [if_pos h]
  rw [if_neg h]
  have ea : bits .and .i64 a 63 = a % 64 := and_mask 6 (by decide) a
  obtain ⟨q, hq⟩ := Int.eq_ofNat_of_zero_le (show 0 ≤ a % 64 by omega)
  have q64 : q < 64 := by omega
  have g1 : ([] : List Int).length + l.length < 17592186044416 := Nat.lt_of_le_of_lt (show ([] : List Int).length + l.length ≤ 100 by rw [List.length_nil]; omega) (by decide)
  have g2 : ([] ++ l : List Int).length < 17592186044416 := Nat.lt_of_le_of_lt (show ([] ++ l : List Int).length ≤ 100 by rw [List.nil_append]; omega) (by decide)
  rw [if_pos g1, if_pos g2, List.nil_append]
  have := sizes_l0 a q q64 (by rw [ea, hq]) q 0 (999 - q) (l ++ [128512]) (by omega) (by omega) (by rw [List.length_append, List.length_singleton]; omega) (by
    rw [textL_snoc, List.length_append]
    have : 0 < (Lib.encodeRune (replR 128512)).length := by decide
    omega)
  rw [show 999 - q + q + 1 = 1000 by omega] at this
  exact this
end Go.Proofs.Ytcabijajjceghaa.Pure
