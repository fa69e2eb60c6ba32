/- decomp.parts: the values of a row, out of the row's text. The library's variables are asked for (VarsAt). -/
import Derived.WalkKit
import Derived.Test.YtocapbnnkfjacaaDoorHCode
import Derived.Test.YtocapbnnkfjacaaDoorHParseI
namespace Go.Proofs.YtocapbnnkfjacaaDoor.G
open Go.RowKit Go.Proofs.YtocapbnnkfjacaaDoorW.PrintWords Go.Proofs.YtocapbnnkfjacaaDoorW.PrintLast Go.Proofs.YtocapbnnkfjacaaDoorW.PrintMore
set_option linter.unusedVariables false
set_option linter.unusedSimpArgs false
open Go.Proofs.YtocapbnnkfjacaaDoor.D

def dig4 (v : Nat) : List Nat := [v / 4096 % 16, v / 256 % 16, v / 16 % 16, v % 16]
theorem p4_calls (v : Nat) (hv : v < 65536) (S : ByteArray) (hS : S.data.toList = hex4 v) (w : World) :
    Calls Tryd.prog 29 #[.string S, .int .i64 16, .int .i64 32] w fun e w' => e = .returned (.tuple #[.int .i64 (v : Int), .nilIface]) ∧ Below w.heap.size w w' := by
  have h := pint (dig4 v) S (by unfold bytesOf; rw [hS]; rfl) rfl (fun d hd => by
    simp only [dig4, List.mem_cons, List.mem_nil_iff, or_false] at hd
    rcases hd with rfl | rfl | rfl | rfl <;> exact Nat.mod_lt _ (by decide)) w
  have e : val4 (dig4 v) 4 = v := by
    simp [val4, dig4]
    omega
  rwa [e] at h
theorem split_calls (vs : List Nat) (h1 : 1 ≤ vs.length) (S : ByteArray) (hS : S.data.toList = vText vs) (hsz : S.size ≤ 100) (hsp : Lib.splitK [44] 0 (Lib.count (vText vs) [44]) (vText vs) = vs.map hex4) (w : World) (V : VarsAt w) :
    Calls Tryd.prog 28 #[.string S, .string ⟨#[44]⟩] w fun e w' => ∃ PB : List ByteArray, PB.map (·.data.toList) = vs.map hex4 ∧ e = .returned (.slice (some ⟨w.heap.size, 0, none⟩) vs.length vs.length) ∧ w' = w.alloc (.cells (PB.map Value.string).toArray 9) := by
  obtain ⟨⟨m, hm⟩, _⟩ := V
  have hc : Lib.countB S ⟨#[44]⟩ = Lib.count (vText vs) [44] := by unfold Lib.countB; rw [hS]
  have hd := Lib.splitB_data ⟨#[44]⟩ 0 (Lib.countB S ⟨#[44]⟩) S
  have hl := Lib.splitB_all ⟨#[44]⟩ (by decide) 0 _ S rfl
  rw [hS, hc] at hd
  have hd2 : (Lib.splitB ⟨#[44]⟩ 0 (Lib.countB S ⟨#[44]⟩) S).map (·.data.toList) = vs.map hex4 := by rw [hc]; exact hd.trans hsp
  have hn : Lib.countB S ⟨#[44]⟩ + 1 = vs.length := by
    have := congrArg List.length hd2
    rw [List.length_map, List.length_map, hl] at this
    exact this
  refine (Tryd.strings_Split S ⟨#[44]⟩ m w (by omega) hm (by decide)).mono ?_
  rintro e w' ⟨rfl, rfl⟩
  exact ⟨_, hd2, by rw [hn], rfl⟩
set_option maxHeartbeats 2000000 in
set_option maxRecDepth 100000 in
theorem parts_calls (vs : List Nat) (h1 : 1 ≤ vs.length) (h4 : vs.length ≤ 4) (h16 : ∀ v ∈ vs, v < 65536) (S : ByteArray) (hS : S.data.toList = vText vs) (hsz : S.size ≤ 100) (hsp : Lib.splitK [44] 0 (Lib.count (vText vs) [44]) (vText vs) = vs.map hex4) (w : World) (V : VarsAt w) :
    Calls Tryd.prog 19 #[.string S] w fun e w' => ∃ v : Value, e = .returned v ∧ Kd.R (Kd.int .i64) 3 w' w.heap.size (fun _ => True) v (vs.map (fun v : Nat => (v : Int))) ∧ Below w.heap.size w w' := by
  have HV := Aside0.mk V
  have HS := Aside0.mk (split_calls vs h1 S hS hsz hsp)
  clear V hS hsp
  go_enter Tryd.func19, Tryd.ntmps19
  go_wp2_with fail
  refine (HS.out _ HV.out).mono ?_
  rintro e w1 ⟨PB, hPB, rfl, rfl⟩
  have HPB := Aside0.mk hPB
  have HB1 := Aside0.mk ((Below.refl w.heap.size w).alloc (Nat.le_refl _) (.cells (PB.map Value.string).toArray 9))
  have HP := Aside0.mk (blk_new w (.cells (PB.map Value.string).toArray 9))
  clear hPB
  go_wp2_with (first
    | ((with_reducible refine gate_dst (N := 12) rfl ?_); refine Kd.R_make (Kd.int .i64) (w0 := w.alloc (.cells (PB.map Value.string).toArray 9)) (w.heap.size + 1) 3 rfl rfl 24 (.tmp 11) (.tmp 11) rfl (vs.length : Int) rfl rfl Tryd.underlying24 (.int .i64 0) 8 info3 rfl (by decide) (by decide) 0 (ok := fun _ => True) (okp := fun _ => True) rfl (fun _ h => h) trivial (Int.natCast_nonneg _) (by rw [Int.toNat_natCast]; omega) (Below.refl _ _) (by simp) ?_; intro v2 w2 ho hb hg hnew; clear hg hnew; have HO := Aside0.mk ho; have HB2 := Aside0.mk hb; clear ho hb))
  rw [Int.toNat_natCast] at HO
  obtain ⟨g, cap, rfl, hgb, hgl, _⟩ := Kd.R_form HO.out (by rw [List.length_replicate]; omega)
  rw [List.length_replicate] at HO ⊢
  have HP2 := Aside0.mk (blk_below HP.out (HB2.out.mono (by simp)))
  have HB3 := Aside0.mk (HB1.out.trans (HB2.out.mono (by simp)))
  clear hgl
  go_loopw [15] (fun i wr => ∃ k : Nat, k ≤ vs.length ∧ i = .int .i64 k ∧ Aside0 ((Kd.int .i64).R 3 wr (w.heap.size + 1) (fun _ => True) (.slice (some ⟨g, 0, none⟩) vs.length cap) ((vs.take k).map (fun v : Nat => (v : Int)) ++ List.replicate (vs.length - k) 0)) ∧ Aside0 (wr.heap[w.heap.size]? = some (.cells (PB.map Value.string).toArray 9 (0, 0))) ∧ Aside0 (Below w.heap.size w wr)) (fun i wr => vs.length - (intOf i).toNat)
  case atStart => exact ⟨0, by omega, rfl, ⟨by simpa using HO.out⟩, HP2, HB3⟩
  case round =>
    obtain ⟨k, hk, rfl, HR, HQ, HL⟩ := hrel
    by_cases hlt : k < vs.length
    · have hpl : k < PB.length := by
        have := congrArg List.length HPB.out
        rw [List.length_map, List.length_map] at this
        omega
      have hc := blk_cell HQ.out k
      have hv : (PB.map Value.string).toArray[k]? = some (.string PB[k]) := by simp [hpl]
      rw [hv] at hc
      have hSk : PB[k].data.toList = hex4 vs[k] := by
        have h2 : (PB.map (·.data.toList))[k]? = (vs.map hex4)[k]? := by rw [HPB.out]
        rw [List.getElem?_map, List.getElem?_map, List.getElem?_eq_getElem hpl, List.getElem?_eq_getElem hlt] at h2
        exact Option.some.inj h2
      have hvk := h16 vs[k] (List.getElem_mem hlt)
      clear hv
      generalize PB[k] = T at *
      have HX := Aside0.mk (show (vs.take (k + 1)).map (fun v : Nat => (v : Int)) ++ List.replicate (vs.length - (k + 1)) 0 = ((vs.take k).map (fun v : Nat => (v : Int)) ++ List.replicate (vs.length - k) 0).set k (vs[k] : Int) by
        have hr : vs.length - k = (vs.length - (k + 1)) + 1 := by omega
        have htl : ((vs.take k).map (fun v : Nat => (v : Int))).length = k := by rw [List.length_map, List.length_take]; omega
        rw [List.take_succ_eq_append_getElem hlt, List.map_append, hr, List.replicate_succ, List.set_append_right _ _ (by omega), htl, Nat.sub_self]
        simp)
      generalize vs[k] = x at *
      have hpc := p4_calls x hvk T hSk
      clear hvk hSk
      have HPC := Aside0.mk hpc
      clear hpc
      go_wp2_with fail
      refine (HPC.out _).mono ?_
      rintro e w3 ⟨rfl, hb3⟩
      have HR3 := Aside0.mk (Kd.R_below HR.out hb3)
      have HQ3 := Aside0.mk (blk_below HQ.out hb3)
      have HL3 := Aside0.mk (HL.out.trans (hb3.mono HL.out.size))
      clear hb3
      obtain ⟨hc3, hf3⟩ := Kd.R_celln (0 : Int) HR3.out (k : Int) (by omega) (by omega)
      rw [Int.toNat_natCast] at hc3 hf3
      have HR4 := Aside0.mk (Kd.R_putn HR3.out (k : Int) (x : Int))
      rw [Int.toNat_natCast] at HR4
      go_wp2
      go_roundw
      case rel => exact ⟨k + 1, hlt, by go_num, ⟨by rw [HX.out]; exact HR4.out⟩, ⟨by
          rw [Below.heap_setCell _ _ _ _ (show w.heap.size ≠ g by omega)]
          exact HQ3.out⟩, ⟨Below.setCell HL3.out (p := ⟨g, k, none⟩) (by simp <;> omega) _⟩⟩
      case measure => simp [intOf]; omega
    · have HX := Aside0.mk (show (vs.take k).map (fun v : Nat => (v : Int)) ++ List.replicate (vs.length - k) 0 = vs.map (fun v : Nat => (v : Int)) by
        have : k = vs.length := by omega
        subst this
        simp)
      go_wp2
      go_ret
      exact ⟨_, rfl, Kd.R_lower (by rw [← HX.out]; exact HR.out) (by omega), HL.out⟩
end Go.Proofs.YtocapbnnkfjacaaDoor.G
