/- slices.Concat of two rows of bytes, by hand; slices.Grow by the shelf's contract. No condition but that the rows are short and the first is not empty. -/
import Derived.Test.YtcabijajjceghaaG0
import Derived.Shelf.Spec.SlicesGrow
import Derived.WalkKit
import Derived.RangeFuncRecord
namespace Go.Proofs.Ytcabijajjceghaa.G
open Go.Shelf Go.RowKit Go.Proofs.YtcabijajjceghaaW.PrintWords Go.Proofs.YtcabijajjceghaaW.PrintLast Go.Proofs.YtcabijajjceghaaW.PrintMore
set_option linter.unusedVariables false
set_option linter.unusedSimpArgs false

def growRen : Go.Shelf.Ren := ⟨fun | 4 => 72 | n => n, fun | 22 => 23 | 25 => 5 | n => n, fun | n => n⟩
theorem laysGrow : Go.Proofs.Lays8.n4 Try.prog growRen := {
  mixed := by kernel_rfl
  f4 := ⟨"slices.Grow[[]byte,byte]", by decide, Try.func72.trans (congrArg some (by kernel_rfl))⟩
  t0 := Try.underlying0
  a0 := Try.isAgg0
  z0 := Try.sizeOf0
  v0 := Try.zeroValue0
  t3 := Try.underlying3
  a3 := Try.isAgg3
  z3 := Try.sizeOf3
  v3 := Try.zeroValue3
  t4 := Try.underlying4
  a4 := Try.isAgg4
  z4 := Try.sizeOf4
  v4 := Try.zeroValue4
  t9 := Try.underlying9
  a9 := Try.isAgg9
  z9 := Try.sizeOf9
  v9 := Try.zeroValue9
  t20 := Try.underlying20
  a20 := Try.isAgg20
  z20 := Try.sizeOf20
  v20 := Try.zeroValue20
  t22 := Try.underlying23
  a22 := Try.isAgg23
  z22 := Try.sizeOf23
  v22 := Try.zeroValue23 }

/-- slices.Grow of the nil slice: an empty row, owned. -/
theorem grow_nil (n : Nat) (w : World) (hn : 0 < n) (hb : n ≤ 1000000000) : Calls Try.prog 72 #[.slice none 0 0, .int .i64 n] w fun e w' => ∃ v, e = .returned v ∧ Kd.R (Kd.int .u8) 5 w' w.heap.size (fun _ => True) v [] ∧ Below w.heap.size w w' := by
  obtain ⟨i0, hi, hi0, hi1, hi2⟩ := info_parts info5
  refine (Any8.slices_Grow_grow laysGrow i0 (.int .u8 0) hi hi0 (by omega) none 0 0 n [] w (Nat.le_refl _) (by omega) (by rw [hi2]; omega) (by omega) (by simp) (fun _ => rfl) (fun a h => by cases h)).mono ?_
  rintro e w' ⟨rfl, rfl⟩

  refine ⟨_, rfl, Kd.R_of_own (enc := Value.int .u8) (xs := []) ⟨rfl, .inr ⟨_, _, _, rfl, Nat.le_refl _, World.alloc_heap_new _ _, Nat.zero_le _, ?_, ?_, rfl⟩⟩ (fun _ _ => trivial), ?_⟩
  · exact grownCap_le_maxLen w _ _ _ (Nat.le_trans (show 0 + n ≤ 1000000000 by omega) (by decide))
  · have := grownCap_ge w (0 + n) 0 5
    simp only [Array.size_append, List.size_toArray, size_zeroCells, List.length_nil, Value.cells]
    show 0 + (0 + n - 0) * 1 + (_ - (0 + n)) * 1 = _ * 1
    show 0 + (0 + n - 0) * 1 + (grownCap w (0 + n) 0 5 - (0 + n)) * 1 = grownCap w (0 + n) 0 5 * 1
    omega
  · exact below_alloc (below_drew1 (Below.refl _ w)) _

set_option maxHeartbeats 4000000 in
set_option maxRecDepth 100000 in
theorem concat_two (g : Nat) (A B : Option Addr) (n m ca cb : Nat) (xs ys : List Int) (w : World) (hG : w.heap[g]? = some (.cells #[.slice A n ca, .slice B m cb] 23 (0, 0)))
    (hA : Kd.C (Kd.int .u8) w A n xs) (hB : Kd.C (Kd.int .u8) w B m ys) (hn : 0 < n) (h1 : n ≤ 400000000) (h2 : m ≤ 400000000) :
    Calls Try.prog 60 #[.slice (some ⟨g, 0, none⟩) 2 2] w fun e w' => ∃ v, e = .returned v ∧ Kd.R (Kd.int .u8) 5 w' w.heap.size (fun _ => True) v (xs ++ ys) ∧ Below w.heap.size w w' := by
  have HA := Aside0.mk hA
  have HB := Aside0.mk hB
  have HG := Aside0.mk hG
  have hgl := blk_lt hG
  have c0' := blk_cell hG 0
  have c1' := blk_cell hG 1
  clear hA hB hG
  go_enter Try.func60, Try.ntmps60
  go_wp2
  go_loopw [3, 11] (fun s i wr => w = wr ∧ ((i = .int .i64 0 ∧ s = .int .i64 0) ∨ (i = .int .i64 1 ∧ s = .int .i64 n) ∨ (i = .int .i64 2 ∧ s = .int .i64 ((n : Int) + (m : Int))))) (fun _ i _ => 2 - (intOf i).toNat)
  case atStart => exact ⟨rfl, .inl ⟨rfl, rfl⟩⟩
  case round =>
    obtain ⟨rfl, hc⟩ := hrel
    have w1 : wrap64 (0 + (n : Int)) = (n : Int) := by unfold wrap64; omega
    have w2 : wrap64 ((n : Int) + (m : Int)) = (n : Int) + (m : Int) := by unfold wrap64; omega
    rcases hc with ⟨rfl, rfl⟩ | ⟨rfl, rfl⟩ | ⟨rfl, rfl⟩
    · go_wp2
      go_roundw
      case rel => exact ⟨trivial, .inr (.inl ⟨rfl, rfl⟩)⟩
      case measure => simp [intOf]
    · go_wp2
      go_roundw
      case rel => exact ⟨trivial, .inr (.inr ⟨rfl, rfl⟩)⟩
      case measure => simp [intOf]
    · go_wp2_with fail
      have hgr := grow_nil (n + m) w (by omega) (by omega)
      rw [Int.natCast_add] at hgr
      refine hgr.mono ?_
      rintro e w1 ⟨v0, rfl, hR, hbel⟩
      have HR := Aside0.mk hR
      have HL0 := Aside0.mk hbel
      clear hgr hR hbel
      go_wp2
      go_loopw [6, 27] (fun v i wr => Aside0 (Below w.heap.size w wr) ∧ ((i = .int .i64 0 ∧ Aside0 (Kd.R (Kd.int .u8) 5 wr w.heap.size (fun _ => True) v [])) ∨ (i = .int .i64 1 ∧ Aside0 (Kd.R (Kd.int .u8) 5 wr w.heap.size (fun _ => True) v ([] ++ xs))) ∨ (i = .int .i64 2 ∧ Aside0 (Kd.R (Kd.int .u8) 5 wr w.heap.size (fun _ => True) v ([] ++ xs ++ ys))))) (fun _ i _ => 2 - (intOf i).toNat)
      case atStart => exact ⟨HL0, .inl ⟨rfl, HR⟩⟩
      case round =>
        obtain ⟨HL, hc⟩ := hrel
        have c0'' := blk_cell (blk_below HG.out HL.out) 0
        have c1'' := blk_cell (blk_below HG.out HL.out) 1
        rcases hc with ⟨rfl, HO⟩ | ⟨rfl, HO⟩ | ⟨rfl, HO⟩
        · go_wp2_with (first | ((with_reducible refine gate_builtin (b := .append) (xs := #[.tmp 31, .tmp 32]) rfl ?_); (try (refine gate_guard (by rfl) ?_; dsimp only)); at_builtin; refine Kd.R_append_rows (Kd.int .u8) (w0 := w) w.heap.size rfl (.tmp 31) (.tmp 32) 23 5 (.int .u8 0) 1 rfl Try.underlying23 info5 rfl (by decide) (by omega) u6 ([] : List Int) xs A n ca (fun _ => True) (fun _ => False) rfl rfl ?aO ?aR (fun _ _ h => h) (fun _ h => h.elim) (fun _ _ => trivial) ?aB ?aS ?aL ?_; (case aR => exact Kd.C_below HA.out HL.out); (case aB => exact HL.out); (case aO => exact HO.out); (case aS => exact HL.out.size); (case aL => have := HA.out.1; simp only [List.length_nil]; omega); intro v1 w2 ho hb _ _; have HO1 := Aside0.mk ho; have HL1 := Aside0.mk hb; clear ho hb))
          go_roundw
          case rel => exact ⟨HL1, .inr (.inl ⟨rfl, HO1⟩)⟩
          case measure => simp [intOf]
        · go_wp2_with (first | ((with_reducible refine gate_builtin (b := .append) (xs := #[.tmp 31, .tmp 32]) rfl ?_); (try (refine gate_guard (by rfl) ?_; dsimp only)); at_builtin; refine Kd.R_append_rows (Kd.int .u8) (w0 := w) w.heap.size rfl (.tmp 31) (.tmp 32) 23 5 (.int .u8 0) 1 rfl Try.underlying23 info5 rfl (by decide) (by omega) u6 ([] ++ xs) ys B m cb (fun _ => True) (fun _ => False) rfl rfl ?aO ?aR (fun _ _ h => h) (fun _ h => h.elim) (fun _ _ => trivial) ?aB ?aS ?aL ?_; (case aR => exact Kd.C_below HB.out HL.out); (case aB => exact HL.out); (case aO => exact HO.out); (case aS => exact HL.out.size); (case aL => have := HB.out.1; have := HA.out.1; simp only [List.nil_append]; omega); intro v1 w2 ho hb _ _; have HO1 := Aside0.mk ho; have HL1 := Aside0.mk hb; clear ho hb))
          go_roundw
          case rel => exact ⟨HL1, .inr (.inr ⟨rfl, HO1⟩)⟩
          case measure => simp [intOf]
        · go_wp2
          go_ret
          exact ⟨_, rfl, HO.out, HL.out⟩
end Go.Proofs.Ytcabijajjceghaa.G
