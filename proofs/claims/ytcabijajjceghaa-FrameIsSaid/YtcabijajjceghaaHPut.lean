/- frame.Put, by hand: the length's bytes, and the text's. No condition but that there are at most a million values. -/
import Derived.Test.YtcabijajjceghaaHText
import Derived.Test.YtcabijajjceghaaHCat
import Derived.Test.YtcabijajjceghaaG3
namespace Go.Proofs.Ytcabijajjceghaa.G
open Go.Shelf Go.RowKit Go.Proofs.YtcabijajjceghaaW.PrintWords Go.Proofs.YtcabijajjceghaaW.PrintLast Go.Proofs.YtcabijajjceghaaW.PrintMore
set_option linter.unusedVariables false
set_option linter.unusedSimpArgs false

def textB (l : List Int) : ByteArray := ⟨(textL l).toArray⟩
theorem textB_size (l : List Int) : (textB l).size = (textL l).length := by simp [textB, ByteArray.size]
def frame_Put.f (l0 : List Int) : Option (List Int) :=
  if l0.length ≤ 1000000 then (if l0 = [] then some [] else (varint_Put.f 10 ((textL l0).length : Int)).bind fun p => if 0 < p.length ∧ p.length ≤ 100 then some (p ++ bytesOf (textB l0)) else none) else none

theorem laid_two (g : Nat) (A B : Option Addr) (n m ca cb : Nat) (xs ys : List Int) (w : World) (hG : w.heap[g]? = some (.cells #[.slice A n ca, .slice B m cb] 23 (0, 0)))
    (hA : Kd.C (Kd.int .u8) w A n xs) (hB : Kd.C (Kd.int .u8) w B m ys) (hn : 0 < n) (h1 : n ≤ 400000000) (h2 : m ≤ 400000000) :
    Calls Try.prog 42 #[.slice (some ⟨g, 0, none⟩) 2 2] w fun e w' => ∃ v, e = .returned v ∧ Kd.R (Kd.int .u8) 5 w' w.heap.size (fun _ => True) v (xs ++ ys) ∧ Below w.heap.size w w' := by
  have HC := concat_two g A B n m ca cb xs ys w hG hA hB hn h1 h2
  clear hG hA hB
  go_enter Try.func42, Try.ntmps42
  go_wp2_with fail
  refine HC.mono ?_
  rintro e w' ⟨v, rfl, hR, hb⟩
  have HR := Aside0.mk hR
  have HB := Aside0.mk hb
  clear hR hb HC
  go_wp2
  go_ret
  exact ⟨_, rfl, HR.out, HB.out⟩

set_option maxHeartbeats 4000000 in
set_option maxRecDepth 100000 in
theorem frame_Put.calls (A0 : Option Addr) (c1 : Nat) (l0 : List Int) (r : List Int) (w : World) (hr0 : Kd.C (Kd.int .i64) w A0 l0.length l0) (hc0 : l0.length ≤ c1) (h : frame_Put.f l0 = some r) :
    Calls Try.prog 15 #[.slice A0 l0.length c1] w fun e w' => ∃ v0_ : Value, e = .returned (v0_) ∧ Kd.R (Kd.int .u8) 5 w' w.heap.size (fun _ => True) v0_ r ∧ Below w.heap.size w w' := by
  unfold frame_Put.f at h
  by_cases hl : l0.length ≤ 1000000
  rotate_left
  · rw [if_neg hl] at h; cases h
  rw [if_pos hl] at h
  have HT := dec_Text.calls A0 c1 l0 (textB l0) w hr0 hc0 (by unfold dec_Text.f; rw [if_pos hl]; rfl)
  have hle := textL_le l0
  have hsz := textB_size l0
  have hcv : ∀ W, (convert 9 23 (.string (textB l0))).run Try.prog W = .ok (.slice (some ⟨W.heap.size, 0, none⟩) (textB l0).size (grownCap W (textB l0).size 0 5)) (Lib.bytesWorld W 5 (textB l0)) := fun W => Lib.run_convert_string_bytes W 9 23 5 (textB l0) Try.underlying9 Try.underlying23 Try.underlying5
  clear hr0 hc0
  by_cases hz : l0 = []
  · subst hz
    rw [if_pos rfl] at h
    obtain rfl := Option.some.inj h
    generalize textB [] = S at *
    go_enter Try.func15, Try.ntmps15
    go_wp2_with fail
    refine HT.mono ?_
    rintro e w1 ⟨rfl, hb1⟩
    have HB1 := Aside0.mk hb1
    clear hb1 HT
    go_wp2_with fail
    go_ret
    exact ⟨_, rfl, Kd.R_nil _ _ _ _ _, bytes_below HB1.out HB1.out.size _ _⟩
  rw [if_neg hz] at h
  obtain ⟨p, hp, h⟩ := Option.bind_eq_some_iff.1 h
  by_cases hpl : 0 < p.length ∧ p.length ≤ 100
  rotate_left
  · rw [if_neg hpl] at h; cases h
  rw [if_pos hpl] at h
  obtain rfl := Option.some.inj h
  obtain ⟨hp0, hp1⟩ := hpl
  have hb0 : ((l0.length : Int) == 0) = false := by
    have : 0 < l0.length := List.length_pos_iff.2 hz
    simp
    omega
  have hb9 : ¬ ((268435455 : Int) < ((textL l0).length : Int)) := by omega
  generalize textB l0 = S at *
  have HP := Aside0.mk hp
  clear hp h
  go_enter Try.func15, Try.ntmps15
  go_wp2_with fail
  refine HT.mono ?_
  rintro e w1 ⟨rfl, hb1⟩
  have HB1 := Aside0.mk hb1
  clear hb1 HT
  have hBy := Kd.C_of_reads (d := (0 : Int)) (h1 := fun _ => rfl) (bytes_reads w1 5 S (by omega))
  rw [hsz] at hBy
  have HBy := Aside0.mk hBy
  have HB2 := Aside0.mk (bytes_below HB1.out HB1.out.size 5 S)
  clear hBy
  go_wp2_with fail
  refine (varint_Put.calls 10 _ p _ HP.out).mono ?_
  rintro e w2 ⟨v, rfl, hv, hb⟩
  have hV := Kd.R_V (base' := 0) hv
  obtain ⟨Ao, co, rfl⟩ := Kd.V_slice hV
  have HC := Aside0.mk (Kd.V_reads' hV).2.2
  have HB3 := Aside0.mk hb
  clear hv hb hV
  go_wp2_with fail
  have HZ := Aside0.mk HB3.out.size
  have hA2 := Aside0.mk (Kd.C_alloc HC.out (.cells #[.slice Ao p.length co, .slice (some ⟨w1.heap.size, 0, none⟩) (textL l0).length (grownCap w1 (textL l0).length 0 5)] 23))
  have hB2 := Aside0.mk (Kd.C_alloc (Kd.C_below HBy.out HB3.out) (.cells #[.slice Ao p.length co, .slice (some ⟨w1.heap.size, 0, none⟩) (textL l0).length (grownCap w1 (textL l0).length 0 5)] 23))
  refine (laid_two w2.heap.size Ao (some ⟨w1.heap.size, 0, none⟩) p.length (textL l0).length co _ p (bytesOf S) _ (blk_new w2 _) hA2.out hB2.out hp0 (by omega) (by omega)).mono ?_
  rintro e w3 ⟨v3, rfl, hR3, hb3⟩
  have HR3 := Aside0.mk hR3
  have HB4 := Aside0.mk hb3
  clear hR3 hb3
  go_wp2_with fail
  go_ret
  have hs2 : w.heap.size ≤ w2.heap.size := Nat.le_trans HB2.out.size HB3.out.size
  refine ⟨_, rfl, Kd.R_lower HR3.out (by simp; omega), ?_⟩
  exact (((HB2.out.trans (HB3.out.mono HB2.out.size)).alloc hs2 _)).trans (HB4.out.mono (by simp; omega))
end Go.Proofs.Ytcabijajjceghaa.G
