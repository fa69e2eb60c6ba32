/- A frame cut by one byte is short. No condition. (For FrameBack, whose walk is not made yet.) -/
import Derived.Test.YtcabijajjceghaaWholeP
namespace Go.Proofs.Ytcabijajjceghaa.G
open Go.RowKit Go.Proofs.YtcabijajjceghaaW.PrintWords Go.Proofs.YtcabijajjceghaaW.PrintLast Go.Proofs.YtcabijajjceghaaW.PrintMore
set_option linter.unusedVariables false
set_option linter.unusedSimpArgs false

theorem frame_short (t : List Int) (h0 : 0 < t.length) (h : t.length < 1024) (k : Nat) (hk : 3 ≤ k) : frame_Take.f k ((vL t.length ++ t).take ((vL t.length ++ t).length - 1)) = some ([], 0, 1) := by
  have e : (vL t.length ++ t).take ((vL t.length ++ t).length - 1) = vL t.length ++ t.take (t.length - 1) := by
    have hl : (vL t.length ++ t).length - 1 = (vL t.length).length + (t.length - 1) := by rw [List.length_append]; omega
    rw [hl, List.take_length_add_append]
  have hv := take_v t.length h0 h (t.take (t.length - 1)) k hk
  have hd : ((vL t.length ++ t.take (t.length - 1)).drop (vL t.length).length).length = t.length - 1 := by rw [List.drop_left, List.length_take]; omega
  have hl : (vL t.length ++ t.take (t.length - 1)).length = (vL t.length).length + (t.length - 1) := by rw [List.length_append, List.length_take]; omega
  rw [e, ft_eq _ k _ _ _ hv, Int.toNat_natCast, if_pos rfl, if_pos (Int.natCast_nonneg _), if_pos (by rw [hl]; omega), if_pos (by rw [hd]; omega)]
end Go.Proofs.Ytcabijajjceghaa.G
