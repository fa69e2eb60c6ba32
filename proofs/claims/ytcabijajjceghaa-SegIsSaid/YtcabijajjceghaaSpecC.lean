/- What package clus knows and says, plainly; its function Sane. No condition. -/
import Derived.Test.YtcabijajjceghaaTabs
import Derived.Test.YtcabijajjceghaaG12
namespace Go.Proofs.Ytcabijajjceghaa.G
open Go.RowKit Go.Proofs.YtcabijajjceghaaW.PrintWords Go.Proofs.YtcabijajjceghaaW.PrintLast Go.Proofs.YtcabijajjceghaaW.PrintMore
set_option linter.unusedVariables false
set_option linter.unusedSimpArgs false

structure CS where
  on : Bool
  kind : Int
  pict : Bool
  odd : Bool
def c0 : CS := ⟨false, 0, false, false⟩
def saneC (s : CS) : Bool :=
  if s.on then (if s.kind = 14 then s.pict && !s.odd else if s.kind = 4 ∨ s.kind = 5 then !s.odd else if s.kind = 6 then !s.pict else decide (0 ≤ s.kind) && decide (s.kind ≤ 14) && !s.pict && !s.odd)
  else !s.on && (s.kind == 0 && (!s.pict && (!s.odd)))
def ctrl (g : Int) : Bool := decide (1 ≤ g) && decide (g ≤ 3)
def sylC (a b : Int) : Bool :=
  if a = 9 then b == 9 || b == 12 || b == 13 || b == 10 else if a = 10 ∨ a = 12 then b == 10 || b == 11 else if a = 11 ∨ a = 13 then b == 11 else false
/-- Does it end between a kind, with what is known ahead, and a kind? -/
def endsC (kind : Int) (p o : Bool) (g : Int) : Bool :=
  if ctrl kind || ctrl g then !(kind == 1 && g == 2)
  else if sylC kind g then false
  else if g = 4 ∨ g = 5 ∨ g = 8 ∨ kind = 7 then false
  else if kind = 5 then !(p && g == 14)
  else !(kind == 6 && o && g == 6)
def endsK (s : CS) (g : Int) : Bool := saneC s && s.on && endsC s.kind s.pict s.odd g
def nextK (s : CS) (g : Int) : CS :=
  let s := if saneC s then s else c0
  ⟨true, g, if g = 14 then true else if g = 4 ∨ g = 5 then s.pict && s.kind != 5 else false, if g = 6 then !s.odd else false⟩
def endsS (s : CS) (r : Int) : Bool := endsK s (gcb r)
def nextS (s : CS) (r : Int) : CS := nextK s (gcb r)
def cutsK (s : CS) : List Int → List Bool
  | [] => []
  | g :: t => endsK s g :: cutsK (nextK s g) t
def runK (s : CS) : List Int → CS
  | [] => s
  | g :: t => runK (nextK s g) t
def cuts (s : CS) (l : List Int) : List Bool := cutsK s (l.map gcb)

theorem sane_kind (s : CS) (h : saneC s = true) (hon : s.on = true) : 0 ≤ s.kind ∧ s.kind ≤ 14 := by
  unfold saneC at h
  rw [if_pos hon] at h
  by_cases a : s.kind = 14
  · omega
  · rw [if_neg a] at h
    by_cases b : s.kind = 4 ∨ s.kind = 5
    · omega
    · rw [if_neg b] at h
      by_cases c : s.kind = 6
      · omega
      · rw [if_neg c] at h
        simp at h
        exact h.1.1
theorem sane_is (k : Nat) (s : CS) (hk : 1 ≤ k) : clus_Sane.f k s.on s.kind s.pict s.odd = some (saneC s) := by
  obtain ⟨k, rfl⟩ : ∃ m, k = m + 1 := ⟨k - 1, by omega⟩
  obtain ⟨on, kind, p, o⟩ := s
  simp only [clus_Sane.f, clus_Sane.j0, saneC]
  by_cases a : kind = 14
  · subst a; cases on <;> cases p <;> cases o <;> simp
  by_cases b : kind = 4
  · subst b; cases on <;> cases p <;> cases o <;> simp
  by_cases c : kind = 5
  · subst c; cases on <;> cases p <;> cases o <;> simp
  by_cases d : kind = 6
  · subst d; cases on <;> cases p <;> cases o <;> simp
  by_cases e : 0 ≤ kind <;> by_cases f : kind ≤ 14 <;> cases on <;> cases p <;> cases o <;> simp [a, b, c, d, e, f]
def tup (s : CS) : Bool × Int × Bool × Bool := (s.on, s.kind, s.pict, s.odd)
end Go.Proofs.Ytcabijajjceghaa.G
