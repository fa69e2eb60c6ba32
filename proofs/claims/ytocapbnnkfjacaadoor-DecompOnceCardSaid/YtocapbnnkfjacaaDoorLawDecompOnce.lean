/- DecompOnce: the row, out of the walk and the plain law; the tied card. (Printed by mkrow.py.) -/
import Derived.Test.YtocapbnnkfjacaaDoorRows
import Derived.Test.YtocapbnnkfjacaaDoorCards
import Derived.Test.YtocapbnnkfjacaaDoorTie
import Derived.Test.YtocapbnnkfjacaaDoorG11
import Derived.Test.YtocapbnnkfjacaaDoorPureDecompOnce
import Derived.Test.YtocapbnnkfjacaaDoorHLaid
import Derived.WalkKit
namespace Go.Proofs.YtocapbnnkfjacaaDoor.decompOnce
open Go.ChangeShapes Go.WideShapes Go.ChangeAt Go.RowKit
open Go.ChangeMaps (open_string shut_string)
set_option linter.unusedVariables false
set_option maxRecDepth 100000 in
theorem lifted (os : Os) (started : os.Started) (H : Type) (enc : TypeId × Value → H) :
    ReturnsInHanded {} Tryd.checked os 5 .any (fun w args => (Rows.decompOnceSpec.pre enc Tryd.prog Tryd.f5 Rows.decompOnceRow.domain false w args ∧ laidMetH Tryd.prog Rows.decompOnceRow.laid w) ∧ sizedMet enc Tryd.prog Tryd.f5 (OpenSpec.ofChange Rows.decompOnceSpec) false w args) (Rows.decompOnceSpec.post enc Tryd.prog Tryd.f5 false true false false) := by
  refine G.handed_laid_shaped (C := Tryd.checked) (X := fun w => laidMetH Tryd.prog Rows.decompIsRow.laid w) (fun _ _ hh h => h.of_heap hh) G.own started (by kernel_rfl) Tryd.func5
    (ChangeSpec.witness_shaped (enc := enc) (C := Tryd.checked) (os := os) (X := fun w _ => laidMetH Tryd.prog Rows.decompIsRow.laid w) false (World.laidAll Tryd.prog os Rows.decompIsRow.laid) #[.int .i64 0] 8 (World.laidAll_os _ _ _)
      (World.shaped_of_ZipB (by kernel_rfl) (by kernel_rfl)) (by kernel_rfl) (by kernel_rfl) (by kernel_rfl) (G.world_met os _)) ?_
  intro W base args ds gs before hval0 hW hL hsh
  have hval : ∀ (j : Nat) t v, Tryd.f5.params[j]? = some t → args[j]? = some v → Value.okWide Tryd.prog W .any base t v := hval0
  have hW' := hW
  obtain ⟨p, q, hA0, hV, rfl, hfz, hnd⟩ := hW
  have hA : DataW.TrodAll enc Tryd.prog W 0 (fun _ => true) true Tryd.f5.params.toList args.toList ds p := hA0
  rw [Tryd.params5] at hA hval
  obtain ⟨v0, vs0, d0, ds0, p0, q0, hargs, rfl, rfl, h0, r0⟩ := trodAll_cons hA
  obtain ⟨rfl, rfl, rfl⟩ := trodAll_nil r0
  obtain rfl : args = #[v0] := by cases args; simp_all
  obtain ⟨rfl, rfl⟩ := trodVars_none hV
  obtain ⟨a0, rfl, rfl, rfl, w0⟩ := open_int Tryd.underlying3 (hval 0 3 v0 rfl rfl) h0
  clear hA0 hval0
  refine (G.pentroughlaw04_DecompOnce.walk Pure.DecompOnce a0 W w0 (G.vars_of hL hsh)).mono fun e W' ⟨he, bel⟩ => ?_
  subst he
  exact ⟨_, rfl, _, _, _, [], _, [], hW', trodAll_mk1 (shut_bool Tryd.underlying4 _), (trodAll_cons_mk (shut_int Tryd.underlying3 w0) trodAll_mk0), rfl, bel.frame _, fun h => by cases h⟩
theorem over : Rows.decompOnceRow.holds Tryd.pinned (OpenSpec.ofChange Rows.decompOnceSpec) :=
  OpenClaim.holds_of_wide 5 Tryd.f5 rfl rfl rfl rfl rfl rfl rfl ⟨rfl, rfl, rfl, rfl, rfl⟩ rfl rfl rfl rfl rfl (by kernel_rfl) Tryd.func5 (by kernel_rfl)
    (of_decide_eq_true (by kernel_rfl)) (by unfold Func.isWrapper; first | (rw [if_pos (by decide +kernel)]; kernel_rfl) | (rw [if_neg (by decide +kernel)]; exact ⟨rfl, rfl⟩))
    (fun os started H enc _ => lifted os started H enc)
theorem carded : Rows.DecompOnceCardSaid :=
  Claim7.holds_tied_plain_at .later [] [.data, .data, .data, .data, .sentinel, .sentinel, .pinned, .pinned] true (true, "2176270a9c7f3a8fe01ca800fed175c8caa35af4498544942035e88f5adf3c5b") true over (fun _ h => by cases h) (by kernel_rfl) (fun _ h => by cases h) decompOnce_row_tie rfl ⟨rfl, rfl⟩ (by kernel_rfl) rfl
    (fun f fn hf hfn => by
      obtain rfl : f = 5 := Option.some.inj ((show Tryd.prog.funcNamed "pentrough/pentroughlaw04.DecompOnce" = some 5 by kernel_rfl).symm.trans hf) |>.symm
      obtain rfl : fn = Tryd.f5 := (Option.some.inj (Tryd.func5.symm.trans hfn)).symm
      exact ⟨by kernel_rfl, fun j t ht => by
        rw [Tryd.params5] at ht
        have hm : t ∈ [3] := by simpa using Array.mem_of_getElem? ht
        have hall : ([3].all fun u => !Tryd.prog.wantsStandIn u) = true := by kernel_rfl
        exact (show Tryd.prog.wantsStandIn t = false by simpa using List.all_eq_true.1 hall t hm)⟩)
    (by kernel_rfl)
#print axioms carded
end Go.Proofs.YtocapbnnkfjacaaDoor.decompOnce
namespace Go.Proofs.YtocapbnnkfjacaaDoor
/-- The card, under a short name, for the claim. -/
theorem decompOnce_holds : Rows.DecompOnceCardSaid := decompOnce.carded
end Go.Proofs.YtocapbnnkfjacaaDoor
