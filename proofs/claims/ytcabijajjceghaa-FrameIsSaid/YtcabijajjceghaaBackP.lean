/- What is put is taken, plainly: of every frame that FrameBack asks for. No condition. -/
import Derived.Test.YtcabijajjceghaaFrameB
import Derived.Test.YtcabijajjceghaaG24
namespace Go.Proofs.Ytcabijajjceghaa.G
open Go.RowKit Go.Proofs.YtcabijajjceghaaW.PrintWords Go.Proofs.YtcabijajjceghaaW.PrintLast Go.Proofs.YtcabijajjceghaaW.PrintMore
set_option linter.unusedVariables false
set_option linter.unusedSimpArgs false

theorem strOf_back (s : ByteArray) : strOfNums (bytesOf s) = s := by
  obtain ⟨⟨l⟩⟩ := s
  unfold strOfNums bytesOf
  congr 1
  apply Array.ext'
  simp only [List.map_map, Function.comp_def]
  show List.map _ l = l
  conv => rhs; rw [← List.map_id l]
  refine List.map_congr_left fun x _ => ?_
  simp
theorem enc_pos_back (r : Int) : 0 < (Lib.encodeRune r).length := by
  unfold Lib.encodeRune Lib.encodeRuneZ
  repeat' split
  all_goals simp
theorem text_pos_back (c : List Int) (h : c ≠ []) : 0 < (textL c).length := by
  cases c with
  | nil => exact absurd rfl h
  | cons a l =>
    unfold textL
    rw [List.flatMap_cons, List.length_append]
    have := enc_pos_back (replR a)
    omega
theorem back_is (l : List Int) (hn : l ≠ []) (hl : l.length ≤ 200) : ∃ b t : List Int, frame_Put.f l = some b ∧ 2 ≤ b.length ∧ b.length ≤ 1100 ∧ strOfNums t = textB l ∧ (∀ more : List Int, more.length ≤ 100 → frame_Take.f 20 (b ++ more) = some (t, (b.length : Int), 0)) ∧ frame_Take.f 20 (b.take (b.length - 1)) = some ([], 0, 1) := by
  have h0 := text_pos_back l hn
  have h1 := textL_le l
  have hb : (bytesOf (textB l)).length = (textL l).length := by rw [bytesOf_length, textB_size]
  have hp := frame_put l h0 (by omega) (by omega)
  obtain ⟨v1, v2⟩ := vL_len (bytesOf (textB l)).length
  refine ⟨_, bytesOf (textB l), hp, ?_, ?_, strOf_back _, fun more hm => ?_, frame_short _ (by omega) (by omega) 20 (by decide)⟩
  · rw [List.length_append]; omega
  · rw [List.length_append]; omega
  · have := frame_take (bytesOf (textB l)) more (by omega) (by omega) (by omega) 20 (by decide)
    rw [List.length_append]
    exact this
theorem awake13_back : pentroughlaw13_awake.f 20 = some true := by decide +kernel
end Go.Proofs.Ytcabijajjceghaa.G
