/- The document's table of layer 4: the same rows, without the blank ahead. -/
import Derived.WalkKit
import Derived.Test.YtocapbnnkfjacaaDoorG0
import Derived.Test.YtocapbnnkfjacaaDoorDecP
namespace Go.Proofs.YtocapbnnkfjacaaDoor.G
open Go.RowKit Go.Proofs.YtocapbnnkfjacaaDoorW.PrintWords Go.Proofs.YtocapbnnkfjacaaDoorW.PrintLast Go.Proofs.YtocapbnnkfjacaaDoorW.PrintMore
set_option linter.unusedVariables false
set_option linter.unusedSimpArgs false
open Go.Proofs.YtocapbnnkfjacaaDoor.D

def tabR : List (Nat × List Nat) → List UInt8
  | [] => []
  | p :: R => rowT p ++ 32 :: tabR R
def refB : ByteArray := ⟨(tabR rowsD).toArray⟩
def pentroughref04_table.f : Option (ByteArray) := some refB
set_option maxRecDepth 1000000 in
theorem pentroughref04_table.calls (r : ByteArray) (w : World) (h : pentroughref04_table.f = some r) : Calls Tryd.prog 21 #[] w fun e w' => e = .returned (.string r) ∧ Below w.heap.size w w' := by
  obtain rfl := Option.some.inj h
  clear h
  go_enter Tryd.func21, Tryd.ntmps21
  go_wp2
  go_ret
  exact ⟨by kernel_rfl, Below.refl _ _⟩
end Go.Proofs.YtocapbnnkfjacaaDoor.G
