/- decomp.table and decomp.code: the text of the rows; a value's digits. The two variables of the library that are read are asked for (VarsAt). -/
import Derived.WalkKit
import Derived.Test.YtocapbnnkfjacaaDoorHFmt
import Derived.Test.YtocapbnnkfjacaaDoorShelf
namespace Go.Proofs.YtocapbnnkfjacaaDoor.G
open Go.RowKit Go.Proofs.YtocapbnnkfjacaaDoorW.PrintWords Go.Proofs.YtocapbnnkfjacaaDoorW.PrintLast Go.Proofs.YtocapbnnkfjacaaDoorW.PrintMore
set_option linter.unusedVariables false
set_option linter.unusedSimpArgs false
open Go.Proofs.YtocapbnnkfjacaaDoor.D

/-- What the library's own variables hold, as far as it is read. -/
structure VarsAt (w : World) : Prop where
  mx : ∃ m, w.cell? ⟨0, 0, none⟩ = some (.int .i64 m)
  tz : w.cell? ⟨8, 15, none⟩ = some (.int .u8 4)
theorem VarsAt.below {w w' : World} (h : VarsAt w) (hb : Below w.heap.size w w') : VarsAt w' := by
  obtain ⟨⟨m, h1⟩, h2⟩ := h
  exact ⟨⟨m, (hb.cell (p := ⟨0, 0, none⟩) (World.block_lt_of_cell? w _ h1)).trans h1⟩, (hb.cell (p := ⟨8, 15, none⟩) (World.block_lt_of_cell? w _ h2)).trans h2⟩

def tabB : ByteArray := ⟨(tabT rowsD).toArray⟩
set_option maxRecDepth 1000000 in
theorem tab_calls (w : World) : Calls Tryd.prog 17 #[] w fun e w' => e = .returned (.string tabB) ∧ w = w' := by
  go_enter Tryd.func17, Tryd.ntmps17
  go_wp2
  go_ret
  exact ⟨by kernel_rfl, rfl⟩
theorem hexF_len : ∀ (k n : Nat), (hexF k n).length ≤ k
  | 0, n => by simp [hexF]
  | k + 1, n => by
    unfold hexF
    split
    · simp
    · rw [List.length_append, List.length_singleton]
      have := hexF_len k (n / 16)
      omega
theorem hexF_low : ∀ (k n : Nat), ∀ c ∈ hexF k n, c.toNat < 128
  | 0, n, c, hc => by simp [hexF] at hc
  | k + 1, n, c, hc => by
    unfold hexF at hc
    have hld : ∀ d : Fin 16, (ld d.val).toNat < 128 := by decide
    split at hc
    · rename_i h
      rw [List.mem_singleton] at hc
      rw [hc]
      exact hld ⟨n, h⟩
    · rw [List.mem_append, List.mem_singleton] at hc
      rcases hc with hc | hc
      · exact hexF_low k _ c hc
      · rw [hc]
        exact hld ⟨n % 16, Nat.mod_lt _ (by decide)⟩
/-- A value's digits, as decomp.code has them. -/
def codeL (r : Nat) : List UInt8 := List.replicate (4 - (hexF 16 r).length) 48 ++ (hexF 16 r).map Lib.upperB
theorem size_of (S : ByteArray) (l : List UInt8) (h : S.data.toList = l) : S.size = l.length := by rw [← h]; exact (data_length S).symm
theorem fmt_calls (r : Nat) (hr : r < 9223372036854775808) (w : World) (V : VarsAt w) : Calls Tryd.prog 26 #[.int .i64 r, .int .i64 16] w fun e w' => ∃ S : ByteArray, e = .returned (.string S) ∧ S.data.toList = hexF 16 r ∧ Below w.heap.size w w' :=
  (fmt16 r hr w V.tz).mono fun e w' ⟨he, hb⟩ => ⟨_, he, rfl, hb⟩
theorem upper_calls (r : Nat) (S : ByteArray) (h : S.data.toList = hexF 16 r) (w : World) : Calls Tryd.prog 25 #[.string S] w fun e w' => ∃ T : ByteArray, e = .returned (.string T) ∧ T.data.toList = (hexF 16 r).map Lib.upperB ∧ Below w.heap.size w w' :=
  (Tryd.strings_ToUpper_ascii S w (by rw [size_of S _ h]; exact Nat.le_trans (hexF_len 16 r) (by decide)) (fun j b hb => hexF_low 16 r b (by rw [h] at hb; exact List.mem_of_getElem? hb))).mono fun e w' ⟨he, hb⟩ => ⟨_, he, by rw [h]; rfl, hb⟩
theorem rep_calls (c : Nat) (h : c ≤ 4) (w : World) : Calls Tryd.prog 27 #[.string ⟨#[48]⟩, .int .i64 (c : Int)] w fun e w' => ∃ T : ByteArray, e = .returned (.string T) ∧ T.data.toList = List.replicate c 48 ∧ Below w.heap.size w w' :=
  (Tryd.strings_Repeat ⟨#[48]⟩ c w (by omega) (by show 1 * c ≤ _; omega)).mono fun e w' ⟨he, hb⟩ => ⟨_, he, by
    have h48 := Lib.repeatL_replicate 48 1 c
    rw [List.replicate_one, Nat.mul_one] at h48
    exact h48, hb⟩
set_option maxHeartbeats 1000000 in
set_option maxRecDepth 100000 in
theorem code_calls (r : Nat) (hr : r < 9223372036854775808) (w : World) (V : VarsAt w) :
    Calls Tryd.prog 18 #[.int .i64 r] w fun e w' => ∃ S : ByteArray, e = .returned (.string S) ∧ S.data.toList = codeL r ∧ Below w.heap.size w w' := by
  have HV := Aside0.mk V
  have hlen := hexF_len 16 r
  clear V
  go_enter Tryd.func18, Tryd.ntmps18
  go_wp2_with fail
  refine (fmt_calls r hr _ HV.out).mono ?_
  rintro e w1 ⟨S, rfl, hS, hb1⟩
  have HB1 := Aside0.mk hb1
  have HS := Aside0.mk hS
  clear hb1 hS
  go_wp2_with fail
  refine (upper_calls r S HS.out _).mono ?_
  rintro e w2 ⟨T, rfl, hT, hb2⟩
  have HB2 := Aside0.mk (HB1.out.trans (hb2.mono HB1.out.size))
  have hz : T.size = (hexF 16 r).length := by rw [size_of T _ hT, List.length_map]
  have hz16 : T.size ≤ 16 := by omega
  have HT := Aside0.mk hT
  have HZ := Aside0.mk hz
  clear hb2 hT hz hlen
  go_wp2_with fail
  rw [show max 0 (4 - (T.size : Int)) = ((4 - T.size : Nat) : Int) from by omega]
  refine (rep_calls (4 - T.size) (by omega) _).mono ?_
  rintro e w3 ⟨R, rfl, hR, hb3⟩
  have HB3 := Aside0.mk (HB2.out.trans (hb3.mono HB2.out.size))
  have hzr : R.size ≤ 4 := by rw [size_of R _ hR, List.length_replicate]; omega
  have HR := Aside0.mk hR
  have hcat : R.size + T.size ≤ 9223372036854775807 := Nat.le_trans (show R.size + T.size ≤ 20 by omega) (by decide)
  clear hb3 hR
  go_wp2_with fail
  go_ret
  refine ⟨_, rfl, ?_, HB3.out⟩
  unfold codeL
  rw [ByteArray.data_append, Array.toList_append, HR.out, HT.out, HZ.out]
end Go.Proofs.YtocapbnnkfjacaaDoor.G
