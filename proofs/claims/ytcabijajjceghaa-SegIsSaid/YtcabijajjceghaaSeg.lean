/- What package seg comes to, plainly: one value more, all clusters. No condition. -/
import Derived.Test.YtcabijajjceghaaG13
import Derived.Test.YtcabijajjceghaaG29
import Derived.Test.YtcabijajjceghaaClus
namespace Go.Proofs.Ytcabijajjceghaa.G
open Go.RowKit Go.Proofs.YtcabijajjceghaaW.PrintWords Go.Proofs.YtcabijajjceghaaW.PrintLast Go.Proofs.YtcabijajjceghaaW.PrintMore
set_option linter.unusedVariables false
set_option linter.unusedSimpArgs false

def saneG (C : List Int) (s : CS) : Bool := decide (C.length ≤ 32) && (saneC s && (s.on == decide (0 < C.length)))
def fullP (n : Nat) (s : CS) (r : Int) : Bool := decide (0 < n) && (decide (n = 32) || endsS s r)
def feedP (C : List Int) (s : CS) (r : Int) : List Int × CS × List Int :=
  if saneG C s then (if fullP C.length s r then ([r], nextS s r, C) else (C ++ [r], nextS s r, [])) else ([r], nextS c0 r, [])
def allP : List Int → CS → List Int → List (List Int)
  | C, _, [] => if C = [] then [] else [C]
  | C, s, r :: t => if (feedP C s r).2.2 = [] then allP (feedP C s r).1 (feedP C s r).2.1 t else (feedP C s r).2.2 :: allP (feedP C s r).1 (feedP C s r).2.1 t

theorem segSane_is (k : Nat) (C : List Int) (s : CS) (hk : 1 ≤ k) : seg_Sane.f k C s.on s.kind s.pict s.odd = some (saneG C s) := by
  unfold seg_Sane.f saneG
  rw [sane_is k s hk]
  by_cases h : C.length ≤ 32
  · rw [if_pos (by omega), decide_eq_true h]
    cases saneC s <;> by_cases h0 : 0 < C.length <;> simp [h0]
  · rw [if_neg (by omega), decide_eq_false h]
    simp
theorem full_is (k : Nat) (C : List Int) (s : CS) (r : Int) (hk : 20 ≤ k) : seg_State_full.f k C s.on s.kind s.pict s.odd r = some (fullP C.length s r) := by
  unfold seg_State_full.f fullP
  rw [ends_is k s r hk]
  by_cases h0 : 0 < C.length
  · by_cases h1 : C.length = 32
    · simp [h0, h1]
    · have h2 : ¬ ((C.length : Int) = 32) := by omega
      simp [h0, h1, h2]
  · have : C.length = 0 := by omega
    simp [this]
end Go.Proofs.Ytcabijajjceghaa.G
