/- frame.Put, by hand: the length's bytes, and the text's. No condition but that there are at most a million values. -/
import Derived.Test.YtcabijajjceghaaHText
import Derived.Test.YtcabijajjceghaaG3
import Derived.Test.YtcabijajjceghaaG0
import Derived.Shelf.Spec.SlicesGrow
import Derived.WalkKit
import Derived.RangeFuncRecord
namespace Go.Proofs.Ytcabijajjceghaa.G
open Go.Shelf Go.RowKit Go.Proofs.YtcabijajjceghaaW.PrintWords Go.Proofs.YtcabijajjceghaaW.PrintLast Go.Proofs.YtcabijajjceghaaW.PrintMore
set_option linter.unusedVariables false
set_option linter.unusedSimpArgs false

def growRen : Go.Shelf.Ren := ⟨fun | 4 => 72 | n => n, fun | 22 => 23 | 25 => 5 | n => n, fun | n => n⟩
theorem laysGrow : Go.Proofs.Lays8.n4 Try.prog growRen := {
  mixed := by kernel_rfl
  f4 := ⟨"slices.Grow[[]byte,byte]", by decide, Try.func72.trans (congrArg some (by kernel_rfl))⟩
  t0 := Try.underlying0
  a0 := Try.isAgg0
  z0 := Try.sizeOf0
  v0 := Try.zeroValue0
  t3 := Try.underlying3
  a3 := Try.isAgg3
  z3 := Try.sizeOf3
  v3 := Try.zeroValue3
  t4 := Try.underlying4
  a4 := Try.isAgg4
  z4 := Try.sizeOf4
  v4 := Try.zeroValue4
  t9 := Try.underlying9
  a9 := Try.isAgg9
  z9 := Try.sizeOf9
  v9 := Try.zeroValue9
  t20 := Try.underlying20
  a20 := Try.isAgg20
  z20 := Try.sizeOf20
  v20 := Try.zeroValue20
  t22 := Try.underlying23
  a22 := Try.isAgg23
  z22 := Try.sizeOf23
  v22 := Try.zeroValue23 }

/-- slices.Grow of the nil slice: an empty row, owned. -/
theorem grow_nil (n : Nat) (w : World) (hn : 0 < n) (hb : n ≤ 1000000000) : Calls Try.prog 72 #[.slice none 0 0, .int .i64 n] w fun e w' => ∃ v, e = .returned v ∧ Kd.R (Kd.int .u8) 5 w' w.heap.size (fun _ => True) v [] ∧ Below w.heap.size w w' := by
  obtain ⟨i0, hi, hi0, hi1, hi2⟩ := info_parts info5
  refine (Any8.slices_Grow_grow laysGrow i0 (.int .u8 0) hi hi0 (by omega) none 0 0 n [] w (Nat.le_refl _) (by omega) (by rw [hi2]; omega) (by omega) (by simp) (fun _ => rfl) (fun a h => by cases h)).mono ?_
  rintro e w' ⟨rfl, rfl⟩

  refine ⟨_, rfl, Kd.R_of_own (enc := Value.int .u8) (xs := []) ⟨rfl, .inr ⟨_, _, _, rfl, Nat.le_refl _, World.alloc_heap_new _ _, Nat.zero_le _, ?_, ?_, rfl⟩⟩ (fun _ _ => trivial), ?_⟩
  · exact grownCap_le_maxLen w _ _ _ (Nat.le_trans (show 0 + n ≤ 1000000000 by omega) (by decide))
  · have := grownCap_ge w (0 + n) 0 5
    simp only [Array.size_append, List.size_toArray, size_zeroCells, List.length_nil, Value.cells]
    show 0 + (0 + n - 0) * 1 + (_ - (0 + n)) * 1 = _ * 1
    show 0 + (0 + n - 0) * 1 + (grownCap w (0 + n) 0 5 - (0 + n)) * 1 = grownCap w (0 + n) 0 5 * 1
    omega
  · exact below_alloc (below_drew1 (Below.refl _ w)) _

set_option maxHeartbeats 4000000 in
set_option maxRecDepth 100000 in
theorem concat_two (g : Nat) (A B : Option Addr) (n m ca cb : Nat) (xs ys : List Int) (w : World) (hG : w.heap[g]? = some (.cells #[.slice A n ca, .slice B m cb] 23 (0, 0)))
    (hA : Kd.C (Kd.int .u8) w A n xs) (hB : Kd.C (Kd.int .u8) w B m ys) (hn : 0 < n) (h1 : n ≤ 400000000) (h2 : m ≤ 400000000) :
    Calls Try.prog 60 #[.slice (some ⟨g, 0, none⟩) 2 2] w fun e w' => ∃ v, e = .returned v ∧ Kd.R (Kd.int .u8) 5 w' w.heap.size (fun _ => True) v (xs ++ ys) ∧ Below w.heap.size w w' := by
  have HA := Aside0.mk hA
  have HB := Aside0.mk hB
  have HG := Aside0.mk hG
  have hgl := blk_lt hG
  have c0' := blk_cell hG 0
  have c1' := blk_cell hG 1
  clear hA hB hG
  go_enter Try.func60, Try.ntmps60
  go_wp2
  go_loopw [3, 11] (fun s i wr => w = wr ∧ ((i = .int .i64 0 ∧ s = .int .i64 0) ∨ (i = .int .i64 1 ∧ s = .int .i64 n) ∨ (i = .int .i64 2 ∧ s = .int .i64 ((n : Int) + (m : Int))))) (fun _ i _ => 2 - (intOf i).toNat)
  case atStart => exact ⟨rfl, .inl ⟨rfl, rfl⟩⟩
  case round =>
    obtain ⟨rfl, hc⟩ := hrel
    have w1 : wrap64 (0 + (n : Int)) = (n : Int) := by unfold wrap64; omega
    have w2 : wrap64 ((n : Int) + (m : Int)) = (n : Int) + (m : Int) := by unfold wrap64; omega
    rcases hc with ⟨rfl, rfl⟩ | ⟨rfl, rfl⟩ | ⟨rfl, rfl⟩
    · go_wp2
      go_roundw
      case rel => exact ⟨trivial, .inr (.inl ⟨rfl, rfl⟩)⟩
      case measure => simp [intOf]
    · go_wp2
      go_roundw
      case rel => exact ⟨trivial, .inr (.inr ⟨rfl, rfl⟩)⟩
      case measure => simp [intOf]
    · go_wp2_with fail
      have hgr := grow_nil (n + m) w (by omega) (by omega)
      rw [Int.natCast_add] at hgr
      refine hgr.mono ?_
      rintro e w1 ⟨v0, rfl, hR, hbel⟩
      have HR := Aside0.mk hR
      have HL0 := Aside0.mk hbel
      clear hgr hR hbel
      go_wp2
      go_loopw [6, 27] (fun v i wr => Aside0 (Below w.heap.size w wr) ∧ ((i = .int .i64 0 ∧ Aside0 (Kd.R (Kd.int .u8) 5 wr w.heap.size (fun _ => True) v [])) ∨ (i = .int .i64 1 ∧ Aside0 (Kd.R (Kd.int .u8) 5 wr w.heap.size (fun _ => True) v ([] ++ xs))) ∨ (i = .int .i64 2 ∧ Aside0 (Kd.R (Kd.int .u8) 5 wr w.heap.size (fun _ => True) v ([] ++ xs ++ ys))))) (fun _ i _ => 2 - (intOf i).toNat)
      case atStart => exact ⟨HL0, .inl ⟨rfl, HR⟩⟩
      case round =>
        obtain ⟨HL, hc⟩ := hrel
        have c0'' := blk_cell (blk_below HG.out HL.out) 0
        have c1'' := blk_cell (blk_below HG.out HL.out) 1
        rcases hc with ⟨rfl, HO⟩ | ⟨rfl, HO⟩ | ⟨rfl, HO⟩
        · go_wp2_with (first | ((with_reducible refine gate_builtin (b := .append) (xs := #[.tmp 31, .tmp 32]) rfl ?_); (try (refine gate_guard (by rfl) ?_; dsimp only)); at_builtin; refine Kd.R_append_rows (Kd.int .u8) (w0 := w) w.heap.size rfl (.tmp 31) (.tmp 32) 23 5 (.int .u8 0) 1 rfl Try.underlying23 info5 rfl (by decide) (by omega) u6 ([] : List Int) xs A n ca (fun _ => True) (fun _ => False) rfl rfl ?aO ?aR (fun _ _ h => h) (fun _ h => h.elim) (fun _ _ => trivial) ?aB ?aS ?aL ?_; (case aR => exact Kd.C_below HA.out HL.out); (case aB => exact HL.out); (case aO => exact HO.out); (case aS => exact HL.out.size); (case aL => have := HA.out.1; simp only [List.length_nil]; omega); intro v1 w2 ho hb _ _; have HO1 := Aside0.mk ho; have HL1 := Aside0.mk hb; clear ho hb))
          go_roundw
          case rel => exact ⟨HL1, .inr (.inl ⟨rfl, HO1⟩)⟩
          case measure => simp [intOf]
        · go_wp2_with (first | ((with_reducible refine gate_builtin (b := .append) (xs := #[.tmp 31, .tmp 32]) rfl ?_); (try (refine gate_guard (by rfl) ?_; dsimp only)); at_builtin; refine Kd.R_append_rows (Kd.int .u8) (w0 := w) w.heap.size rfl (.tmp 31) (.tmp 32) 23 5 (.int .u8 0) 1 rfl Try.underlying23 info5 rfl (by decide) (by omega) u6 ([] ++ xs) ys B m cb (fun _ => True) (fun _ => False) rfl rfl ?aO ?aR (fun _ _ h => h) (fun _ h => h.elim) (fun _ _ => trivial) ?aB ?aS ?aL ?_; (case aR => exact Kd.C_below HB.out HL.out); (case aB => exact HL.out); (case aO => exact HO.out); (case aS => exact HL.out.size); (case aL => have := HB.out.1; have := HA.out.1; simp only [List.nil_append]; omega); intro v1 w2 ho hb _ _; have HO1 := Aside0.mk ho; have HL1 := Aside0.mk hb; clear ho hb))
          go_roundw
          case rel => exact ⟨HL1, .inr (.inr ⟨rfl, HO1⟩)⟩
          case measure => simp [intOf]
        · go_wp2
          go_ret
          exact ⟨_, rfl, HO.out, HL.out⟩
end Go.Proofs.Ytcabijajjceghaa.G

namespace Go.Proofs.Ytcabijajjceghaa.G
open Go.Shelf Go.RowKit Go.Proofs.YtcabijajjceghaaW.PrintWords Go.Proofs.YtcabijajjceghaaW.PrintLast Go.Proofs.YtcabijajjceghaaW.PrintMore
set_option linter.unusedVariables false
set_option linter.unusedSimpArgs false

def textB (l : List Int) : ByteArray := ⟨(textL l).toArray⟩
theorem textB_size (l : List Int) : (textB l).size = (textL l).length := by simp [textB, ByteArray.size]
def frame_Put.f (l0 : List Int) : Option (List Int) :=
  if l0.length ≤ 1000000 then (if l0 = [] then some [] else (varint_Put.f 10 ((textL l0).length : Int)).bind fun p => if 0 < p.length ∧ p.length ≤ 100 then some (p ++ bytesOf (textB l0)) else none) else none

theorem laid_two (g : Nat) (A B : Option Addr) (n m ca cb : Nat) (xs ys : List Int) (w : World) (hG : w.heap[g]? = some (.cells #[.slice A n ca, .slice B m cb] 23 (0, 0)))
    (hA : Kd.C (Kd.int .u8) w A n xs) (hB : Kd.C (Kd.int .u8) w B m ys) (hn : 0 < n) (h1 : n ≤ 400000000) (h2 : m ≤ 400000000) :
    Calls Try.prog 42 #[.slice (some ⟨g, 0, none⟩) 2 2] w fun e w' => ∃ v, e = .returned v ∧ Kd.R (Kd.int .u8) 5 w' w.heap.size (fun _ => True) v (xs ++ ys) ∧ Below w.heap.size w w' := by
  have HC := concat_two g A B n m ca cb xs ys w hG hA hB hn h1 h2
  clear hG hA hB
  go_enter Try.func42, Try.ntmps42
  go_wp2_with fail
  refine HC.mono ?_
  rintro e w' ⟨v, rfl, hR, hb⟩
  have HR := Aside0.mk hR
  have HB := Aside0.mk hb
  clear hR hb HC
  go_wp2
  go_ret
  exact ⟨_, rfl, HR.out, HB.out⟩

set_option maxHeartbeats 4000000 in
set_option maxRecDepth 100000 in
theorem frame_Put.calls (A0 : Option Addr) (c1 : Nat) (l0 : List Int) (r : List Int) (w : World) (hr0 : Kd.C (Kd.int .i64) w A0 l0.length l0) (hc0 : l0.length ≤ c1) (h : frame_Put.f l0 = some r) :
    Calls Try.prog 15 #[.slice A0 l0.length c1] w fun e w' => ∃ v0_ : Value, e = .returned (v0_) ∧ Kd.R (Kd.int .u8) 5 w' w.heap.size (fun _ => True) v0_ r ∧ Below w.heap.size w w' := by
  unfold frame_Put.f at h
  by_cases hl : l0.length ≤ 1000000
  rotate_left
  · rw [if_neg hl] at h; cases h
  rw [if_pos hl] at h
  have HT := dec_Text.calls A0 c1 l0 (textB l0) w hr0 hc0 (by unfold dec_Text.f; rw [if_pos hl]; rfl)
  have hle := textL_le l0
  have hsz := textB_size l0
  have hcv : ∀ W, (convert 9 23 (.string (textB l0))).run Try.prog W = .ok (.slice (some ⟨W.heap.size, 0, none⟩) (textB l0).size (grownCap W (textB l0).size 0 5)) (Lib.bytesWorld W 5 (textB l0)) := fun W => Lib.run_convert_string_bytes W 9 23 5 (textB l0) Try.underlying9 Try.underlying23 Try.underlying5
  clear hr0 hc0
  by_cases hz : l0 = []
  · subst hz
    rw [if_pos rfl] at h
    obtain rfl := Option.some.inj h
    generalize textB [] = S at *
    go_enter Try.func15, Try.ntmps15
    go_wp2_with fail
    refine HT.mono ?_
    rintro e w1 ⟨rfl, hb1⟩
    have HB1 := Aside0.mk hb1
    clear hb1 HT
    go_wp2_with fail
    go_ret
    exact ⟨_, rfl, Kd.R_nil _ _ _ _ _, bytes_below HB1.out HB1.out.size _ _⟩
  rw [if_neg hz] at h
  obtain ⟨p, hp, h⟩ := Option.bind_eq_some_iff.1 h
  by_cases hpl : 0 < p.length ∧ p.length ≤ 100
  rotate_left
  · rw [if_neg hpl] at h; cases h
  rw [if_pos hpl] at h
  obtain rfl := Option.some.inj h
  obtain ⟨hp0, hp1⟩ := hpl
  have hb0 : ((l0.length : Int) == 0) = false := by
    have : 0 < l0.length := List.length_pos_iff.2 hz
    simp
    omega
  have hb9 : ¬ ((268435455 : Int) < ((textL l0).length : Int)) := by omega
  generalize textB l0 = S at *
  have HP := Aside0.mk hp
  clear hp h
  go_enter Try.func15, Try.ntmps15
  go_wp2_with fail
  refine HT.mono ?_
  rintro e w1 ⟨rfl, hb1⟩
  have HB1 := Aside0.mk hb1
  clear hb1 HT
  have hBy := Kd.C_of_reads (d := (0 : Int)) (h1 := fun _ => rfl) (bytes_reads w1 5 S (by omega))
  rw [hsz] at hBy
  have HBy := Aside0.mk hBy
  have HB2 := Aside0.mk (bytes_below HB1.out HB1.out.size 5 S)
  clear hBy
  go_wp2_with fail
  refine (varint_Put.calls 10 _ p _ HP.out).mono ?_
  rintro e w2 ⟨v, rfl, hv, hb⟩
  have hV := Kd.R_V (base' := 0) hv
  obtain ⟨Ao, co, rfl⟩ := Kd.V_slice hV
  have HC := Aside0.mk (Kd.V_reads' hV).2.2
  have HB3 := Aside0.mk hb
  clear hv hb hV
  go_wp2_with fail
  have HZ := Aside0.mk HB3.out.size
  have hA2 := Aside0.mk (Kd.C_alloc HC.out (.cells #[.slice Ao p.length co, .slice (some ⟨w1.heap.size, 0, none⟩) (textL l0).length (grownCap w1 (textL l0).length 0 5)] 23))
  have hB2 := Aside0.mk (Kd.C_alloc (Kd.C_below HBy.out HB3.out) (.cells #[.slice Ao p.length co, .slice (some ⟨w1.heap.size, 0, none⟩) (textL l0).length (grownCap w1 (textL l0).length 0 5)] 23))
  refine (laid_two w2.heap.size Ao (some ⟨w1.heap.size, 0, none⟩) p.length (textL l0).length co _ p (bytesOf S) _ (blk_new w2 _) hA2.out hB2.out hp0 (by omega) (by omega)).mono ?_
  rintro e w3 ⟨v3, rfl, hR3, hb3⟩
  have HR3 := Aside0.mk hR3
  have HB4 := Aside0.mk hb3
  clear hR3 hb3
  go_wp2_with fail
  go_ret
  have hs2 : w.heap.size ≤ w2.heap.size := Nat.le_trans HB2.out.size HB3.out.size
  refine ⟨_, rfl, Kd.R_lower HR3.out (by simp; omega), ?_⟩
  exact (((HB2.out.trans (HB3.out.mono HB2.out.size)).alloc hs2 _)).trans (HB4.out.mono (by simp; omega))
end Go.Proofs.Ytcabijajjceghaa.G
