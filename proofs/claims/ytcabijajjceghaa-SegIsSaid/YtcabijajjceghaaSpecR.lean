/- The reference's Sane of package clus comes to the plain one. No condition. -/
import Derived.Test.YtcabijajjceghaaSpecC
import Derived.Test.YtcabijajjceghaaG16
namespace Go.Proofs.Ytcabijajjceghaa.G
open Go.RowKit Go.Proofs.YtcabijajjceghaaW.PrintWords Go.Proofs.YtcabijajjceghaaW.PrintLast Go.Proofs.YtcabijajjceghaaW.PrintMore
set_option linter.unusedVariables false
set_option linter.unusedSimpArgs false

theorem size_setR (w : World) (p : Addr) (u : Value) : (w.setCell p u).heap.size = w.heap.size := by simp [World.setCell]
theorem rSane_is (s : CS) : pentroughref11_Sane.f s.on s.kind s.pict s.odd = some (saneC s) := by
  obtain ⟨on, kind, p, o⟩ := s
  simp only [pentroughref11_Sane.f, saneC]
  by_cases a : kind = 14
  · subst a; cases on <;> cases p <;> cases o <;> simp
  by_cases b : kind = 4
  · subst b; cases on <;> cases p <;> cases o <;> simp
  by_cases c : kind = 5
  · subst c; cases on <;> cases p <;> cases o <;> simp
  by_cases d : kind = 6
  · subst d; cases on <;> cases p <;> cases o <;> simp
  by_cases e : kind < 0 <;> by_cases f : kind > 14 <;> cases on <;> cases p <;> cases o <;> simp [a, b, c, d, e, f] <;> omega
end Go.Proofs.Ytcabijajjceghaa.G
