/- decomp.Full: what a value is made of, as the rows have it. The library's variables are asked for (VarsAt). -/
import Derived.WalkKit
import Derived.Test.YtocapbnnkfjacaaDoorG1
import Derived.Test.YtocapbnnkfjacaaDoorDecQ
import Derived.Test.YtocapbnnkfjacaaDoorHParts
namespace Go.Proofs.YtocapbnnkfjacaaDoor.G
open Go.RowKit Go.Proofs.YtocapbnnkfjacaaDoorW.PrintWords Go.Proofs.YtocapbnnkfjacaaDoorW.PrintLast Go.Proofs.YtocapbnnkfjacaaDoorW.PrintMore
set_option linter.unusedVariables false
set_option linter.unusedSimpArgs false
open Go.Proofs.YtocapbnnkfjacaaDoor.D

theorem syl_f (s : Nat) (hs : s < 11172) : decomp_syllable.f (s : Int) = some (sylP s) := by
  have e1 : Int.tdiv (s : Int) 588 = ((s / 588 : Nat) : Int) := by rw [Int.tdiv_eq_ediv_of_nonneg (by omega)]; rfl
  have e2 : Int.tmod (s : Int) 588 = ((s % 588 : Nat) : Int) := by rw [Int.tmod_eq_emod_of_nonneg (by omega)]; rfl
  have e3 : Int.tdiv ((s % 588 : Nat) : Int) 28 = ((s % 588 / 28 : Nat) : Int) := by rw [Int.tdiv_eq_ediv_of_nonneg (by omega)]; rfl
  have e4 : Int.tmod (s : Int) 28 = ((s % 28 : Nat) : Int) := by rw [Int.tmod_eq_emod_of_nonneg (by omega)]; rfl
  have w : ∀ x : Int, 0 ≤ x → x < 100000 → wrap64 x = x := fun x h1 h2 => by unfold wrap64; omega
  unfold decomp_syllable.f
  simp only [Option.bind_some, e1, e2, e3, e4]
  have h1 : s / 588 < 20 := by omega
  have h2 : s % 588 / 28 < 22 := by omega
  have h3 : s % 28 < 28 := Nat.mod_lt _ (by decide)
  generalize hx1 : s / 588 = x1 at *
  generalize hx2 : s % 588 / 28 = x2 at *
  generalize hx3 : s % 28 = x3 at *
  rw [w (x1 : Int) (by omega) (by omega), w (x2 : Int) (by omega) (by omega), w (4352 + (x1 : Int)) (by omega) (by omega), w (4449 + (x2 : Int)) (by omega) (by omega), w (4519 + (x3 : Int)) (by omega) (by omega)]
  unfold sylP
  rw [hx1, hx2, hx3]
  by_cases h : x3 = 0
  · simp [h]
  · rw [if_pos (by omega), if_neg h]
    simp
theorem drewB (w : World) (n : Nat) : Below w.heap.size w (w.drewN n) := pw_below_drewN (Below.refl _ _) n
theorem cut1_none (r : Nat) (S : ByteArray) (hS : S.data.toList = 32 :: (codeL r ++ [61])) (hf : rowsD.find? (fun p => p.1 == r) = none) (w : World) (V : VarsAt w) :
    Calls Tryd.prog 16 #[.string tabB, .string S] w fun e w' => ∃ A B : ByteArray, e = .returned (.tuple #[.string A, .string B, .bool false]) ∧ Below w.heap.size w w' := by
  obtain ⟨⟨m, hm⟩, _⟩ := V
  have ht : tabB.data.toList = tabT rowsD := rfl
  have hsz : tabB.size < 4294967281 := by
    rw [size_of tabB _ ht]
    exact Nat.lt_of_le_of_lt tab_len (by decide)
  have hc := cut_tab (codeL r) (codeL_plain r) rowsD
  rw [find_code, hf] at hc
  refine (Tryd.strings_Cut tabB S m w hsz hm).mono ?_
  rintro e w' ⟨rfl, n, rfl⟩
  rw [ht, hS, show (Lib.cut (tabT rowsD) (32 :: (codeL r ++ [61]))).2 = ([], false) from hc]
  exact ⟨_, _, rfl, drewB _ _⟩
theorem cut1_some (r : Nat) (S : ByteArray) (hS : S.data.toList = 32 :: (codeL r ++ [61])) (p : Nat × List Nat) (hf : rowsD.find? (fun p => p.1 == r) = some p) (w : World) (V : VarsAt w) :
    Calls Tryd.prog 16 #[.string tabB, .string S] w fun e w' => ∃ A B : ByteArray, e = .returned (.tuple #[.string A, .string B, .bool true]) ∧ (B.size < 4294967281 ∧ ∃ R', B.data.toList = vText p.2 ++ tabT R') ∧ Below w.heap.size w w' := by
  obtain ⟨⟨m, hm⟩, _⟩ := V
  have ht : tabB.data.toList = tabT rowsD := rfl
  have hsz : tabB.size < 4294967281 := by
    rw [size_of tabB _ ht]
    exact Nat.lt_of_le_of_lt tab_len (by decide)
  have hc := cut_tab (codeL r) (codeL_plain r) rowsD
  rw [find_code, hf] at hc
  obtain ⟨R', hc⟩ := hc
  have hle := cut_le (tabT rowsD) (32 :: (codeL r ++ [61]))
  refine (Tryd.strings_Cut tabB S m w hsz hm).mono ?_
  rintro e w' ⟨rfl, n, rfl⟩
  rw [hc] at hle
  rw [ht, hS, hc]
  refine ⟨_, _, rfl, ⟨?_, R', rfl⟩, drewB _ _⟩
  rw [size_of _ (vText p.2 ++ tabT R') rfl]
  exact Nat.lt_of_le_of_lt (Nat.le_trans hle tab_len) (by decide)
theorem cut2 (vs : List Nat) (B : ByteArray) (hz : B.size < 4294967281) (R' : List (Nat × List Nat)) (hB : B.data.toList = vText vs ++ tabT R') (w : World) (V : VarsAt w) :
    Calls Tryd.prog 16 #[.string B, .string ⟨#[32]⟩] w fun e w' => ∃ (A C : ByteArray) (ok : Bool), e = .returned (.tuple #[.string A, .string C, .bool ok]) ∧ A.data.toList = vText vs ∧ Below w.heap.size w w' := by
  obtain ⟨⟨m, hm⟩, _⟩ := V
  have hc := cut_row vs R'
  refine (Tryd.strings_Cut B ⟨#[32]⟩ m w hz hm).mono ?_
  rintro e w' ⟨rfl, n, rfl⟩
  exact ⟨_, _, _, rfl, by rw [hB]; exact hc, drewB _ _⟩
def decomp_Full.f (a0 : Int) : Option (List Int) := if a0 ≤ 9223372036854775807 then some (fullP a0) else none
set_option maxHeartbeats 4000000 in
set_option maxRecDepth 100000 in
theorem decomp_Full.calls (a0 : Int) (r : List Int) (w : World) (h : decomp_Full.f a0 = some r) (hm_ : VarsAt w) :
    Calls Tryd.prog 9 #[.int .i64 a0] w fun e w' => ∃ v0_ : Value, e = .returned (v0_) ∧ Kd.R (Kd.int .i64) 3 w' w.heap.size (fun _ => True) v0_ r ∧ Below w.heap.size w w' := by
  have HV := Aside0.mk hm_
  clear hm_
  unfold decomp_Full.f at h
  by_cases hmax : a0 ≤ 9223372036854775807
  rotate_left
  · rw [if_neg hmax] at h; cases h
  rw [if_pos hmax] at h
  obtain rfl := Option.some.inj h
  clear h
  by_cases h0 : a0 < 0
  · have HF := Aside0.mk (show fullP a0 = [a0] by unfold fullP; rw [if_pos h0])
    have c1 : decide (a0 < 0) = true := decide_eq_true h0
    clear hmax
    go_enter Tryd.func9, Tryd.ntmps9
    go_wp2_with (first | ((with_reducible refine gate_dst (N := 13) rfl ?_); refine Kd.R_lit (Kd.int .i64) _ 3 ?hg (N := 13) ?hd (xs := ([a0] : List Int)) (inner := [.int .i64 a0]) (ok := fun _ => True) (okp := fun _ => True) ?hr ?hp (fun _ hk => hk) trivial (Below.refl _ _) (Nat.le_refl _) (by simp) ?_; (case hd => rfl); (case hg => rfl); (case hr => first | (go_simp; done) | (go_simp; rfl)); (case hp => exact (Reps.one (show Kd.M (Kd.int .i64) _ _ _ (a0) [.int .i64 (a0)] from rfl) (Reps.none _ _))); intro v9 w9 ho hb hg_ hnew_; have HO := Aside0.mk ho; have HN := Aside0.mk hb; clear hg_ hnew_ ho hb))
    go_ret
    exact ⟨_, rfl, by rw [HF.out]; exact HO.out, HN.out⟩
  have c0 : decide (a0 < 0) = false := decide_eq_false h0
  by_cases h1 : 44032 ≤ a0 ∧ a0 ≤ 55203
  · obtain ⟨h1, h2⟩ := h1
    obtain ⟨s, rfl⟩ : ∃ s : Nat, a0 = 44032 + (s : Int) := ⟨(a0 - 44032).toNat, by omega⟩
    have HF := Aside0.mk (show fullP (44032 + (s : Int)) = sylP s by
      unfold fullP
      rw [if_neg h0, if_pos ⟨h1, h2⟩]
      congr 1
      omega)
    have c1 : decide (44032 ≤ 44032 + (s : Int)) = true := decide_eq_true h1
    have c2 : decide (44032 + (s : Int) ≤ 55203) = true := decide_eq_true h2
    have HS := Aside0.mk (fun w => decomp_syllable.calls (s : Int) _ w (syl_f s (by omega)))
    clear hmax
    go_enter Tryd.func9, Tryd.ntmps9
    go_wp2_with fail
    rw [show (44032 + (s : Int) - 44032) = s by omega]
    refine (HS.out _).mono ?_
    rintro e w1 ⟨v1, rfl, ho, hb⟩
    have HO := Aside0.mk ho
    have HN := Aside0.mk hb
    clear ho hb
    go_wp2
    go_ret
    exact ⟨_, rfl, by rw [HF.out]; exact HO.out, HN.out⟩
  by_cases h2 : 65281 ≤ a0 ∧ a0 ≤ 65374
  · obtain ⟨h2, h3⟩ := h2
    have HF := Aside0.mk (show fullP a0 = [a0 - 65248] by
      unfold fullP
      rw [if_neg h0, if_neg h1, if_pos ⟨h2, h3⟩])
    have c1 : decide (44032 ≤ a0) = true := decide_eq_true (by omega)
    have c2 : decide (a0 ≤ 55203) = false := decide_eq_false (by omega)
    have c3 : decide (65281 ≤ a0) = true := decide_eq_true h2
    have c4 : decide (a0 ≤ 65374) = true := decide_eq_true h3
    clear hmax h1
    go_enter Tryd.func9, Tryd.ntmps9
    go_wp2_with (first | ((with_reducible refine gate_dst (N := 33) rfl ?_); refine Kd.R_lit (Kd.int .i64) _ 3 ?hg (N := 33) ?hd (xs := ([(a0 - 65248)] : List Int)) (inner := [.int .i64 (a0 - 65248)]) (ok := fun _ => True) (okp := fun _ => True) ?hr ?hp (fun _ hk => hk) trivial (Below.refl _ _) (Nat.le_refl _) (by simp) ?_; (case hd => rfl); (case hg => rfl); (case hr => first | (go_simp; done) | (go_simp; rfl)); (case hp => exact (Reps.one (show Kd.M (Kd.int .i64) _ _ _ ((a0 - 65248)) [.int .i64 ((a0 - 65248))] from rfl) (Reps.none _ _))); intro v9 w9 ho hb hg_ hnew_; have HO := Aside0.mk ho; have HN := Aside0.mk hb; clear hg_ hnew_ ho hb))
    go_ret
    exact ⟨_, rfl, by rw [HF.out]; exact HO.out, HN.out⟩
  obtain ⟨n, rfl⟩ : ∃ n : Nat, a0 = (n : Int) := ⟨a0.toNat, by omega⟩
  have hn : n < 9223372036854775808 := by omega
  have hc : (decide (44032 ≤ (n : Int)) = false ∧ decide (65281 ≤ (n : Int)) = false) ∨ (decide (44032 ≤ (n : Int)) = true ∧ decide ((n : Int) ≤ 55203) = false ∧ decide (65281 ≤ (n : Int)) = false) ∨ (decide (44032 ≤ (n : Int)) = true ∧ decide ((n : Int) ≤ 55203) = false ∧ decide (65281 ≤ (n : Int)) = true ∧ decide ((n : Int) ≤ 65374) = false) := by
    simp only [decide_eq_true_eq, decide_eq_false_iff_not]
    omega
  have HF : fullP (n : Int) = match rowsD.find? (fun p => p.1 == n) with
    | some p => p.2.map (fun v : Nat => (v : Int))
    | none => [(n : Int)] := by
      unfold fullP
      rw [if_neg h0, if_neg h1, if_neg h2, Int.toNat_natCast]
      cases rowsD.find? (fun p => p.1 == n) <;> rfl
  have HCD := Aside0.mk (fun w V => code_calls n hn w V)
  clear h0 h1 h2 hmax hn
  cases hf : rowsD.find? (fun p => p.1 == n) with
  | none =>
    rw [hf] at HF
    replace HF := Aside0.mk (show fullP (n : Int) = [(n : Int)] from HF)
    have HK := Aside0.mk (fun S hS w V => cut1_none n S hS hf w V)
    clear hf
    rcases hc with ⟨c1, c3⟩ | ⟨c1, c2, c3⟩ | ⟨c1, c2, c3, c4⟩ <;>
    (go_enter Tryd.func9, Tryd.ntmps9
     go_wp2_with fail
     refine (tab_calls _).mono ?_
     rintro e w1 ⟨rfl, rfl⟩
     go_wp2_with fail
     refine (HCD.out _ HV.out).mono ?_
     rintro e w2 ⟨S, rfl, hS, hb2⟩
     have HB2 := Aside0.mk hb2
     have hz : S.size ≤ 20 := by rw [size_of S _ hS]; exact codeL_len n
     have HS := Aside0.mk (show ((⟨#[32]⟩ : ByteArray) ++ S ++ (⟨#[61]⟩ : ByteArray)).data.toList = 32 :: (codeL n ++ [61]) by
       rw [ByteArray.data_append, Array.toList_append, ByteArray.data_append, Array.toList_append, hS]
       rfl)
     have hcat : (⟨#[32]⟩ : ByteArray).size + S.size ≤ 9223372036854775807 := Nat.le_trans (show 1 + S.size ≤ 21 by omega) (by decide)
     have hcat2 : ((⟨#[32]⟩ : ByteArray) ++ S).size + (⟨#[61]⟩ : ByteArray).size ≤ 9223372036854775807 := by
       rw [ByteArray.size_append]
       exact Nat.le_trans (show 1 + S.size + 1 ≤ 22 by omega) (by decide)
     clear hb2 hS hz
     go_wp2_with fail
     refine (HK.out _ HS.out _ (HV.out.below HB2.out)).mono ?_
     rintro e w3 ⟨A, B, rfl, hb3⟩
     have HB3 := Aside0.mk (HB2.out.trans (hb3.mono HB2.out.size))
     clear hb3
     go_wp2_with (first | ((with_reducible refine gate_dst (N := 47) rfl ?_); refine Kd.R_lit (Kd.int .i64) _ 3 ?hg (N := 47) ?hd (xs := ([(n : Int)] : List Int)) (inner := [.int .i64 (n : Int)]) (ok := fun _ => True) (okp := fun _ => True) ?hr ?hp (fun _ hk => hk) trivial (Below.refl _ _) (Nat.le_refl _) (by simp) ?_; (case hd => rfl); (case hg => rfl); (case hr => first | (go_simp; done) | (go_simp; rfl)); (case hp => exact (Reps.one (show Kd.M (Kd.int .i64) _ _ _ ((n : Int)) [.int .i64 ((n : Int))] from rfl) (Reps.none _ _))); intro v9 w9 ho hb hg_ hnew_; have HO := Aside0.mk ho; have HN := Aside0.mk hb; clear hg_ hnew_ ho hb))
     go_ret
     exact ⟨_, rfl, by rw [HF.out]; exact Kd.R_lower HO.out HB3.out.size, HB3.out.trans (HN.out.mono HB3.out.size)⟩)
  | some p =>
    rw [hf] at HF
    have hp := List.mem_of_find?_eq_some hf
    obtain ⟨p1, p2, p3, p4, p5⟩ := rows_ok p hp
    have p6 := split_rows p hp
    replace HF := Aside0.mk (show fullP (n : Int) = p.2.map (fun v : Nat => (v : Int)) from HF)
    have HK := Aside0.mk (fun S hS w V => cut1_some n S hS p hf w V)
    have HPS := Aside0.mk (fun S hS w V => parts_calls p.2 p2 p3 p4 S hS (by rw [size_of S _ hS]; exact p5) p6 w V)
    clear hf p1 p2 p3 p4 p5 p6 hp
    rcases hc with ⟨c1, c3⟩ | ⟨c1, c2, c3⟩ | ⟨c1, c2, c3, c4⟩ <;>
    (go_enter Tryd.func9, Tryd.ntmps9
     go_wp2_with fail
     refine (tab_calls _).mono ?_
     rintro e w1 ⟨rfl, rfl⟩
     go_wp2_with fail
     refine (HCD.out _ HV.out).mono ?_
     rintro e w2 ⟨S, rfl, hS, hb2⟩
     have HB2 := Aside0.mk hb2
     have hz : S.size ≤ 20 := by rw [size_of S _ hS]; exact codeL_len n
     have HS := Aside0.mk (show ((⟨#[32]⟩ : ByteArray) ++ S ++ (⟨#[61]⟩ : ByteArray)).data.toList = 32 :: (codeL n ++ [61]) by
       rw [ByteArray.data_append, Array.toList_append, ByteArray.data_append, Array.toList_append, hS]
       rfl)
     have hcat : (⟨#[32]⟩ : ByteArray).size + S.size ≤ 9223372036854775807 := Nat.le_trans (show 1 + S.size ≤ 21 by omega) (by decide)
     have hcat2 : ((⟨#[32]⟩ : ByteArray) ++ S).size + (⟨#[61]⟩ : ByteArray).size ≤ 9223372036854775807 := by
       rw [ByteArray.size_append]
       exact Nat.le_trans (show 1 + S.size + 1 ≤ 22 by omega) (by decide)
     clear hb2 hS hz
     go_wp2_with fail
     refine (HK.out _ HS.out _ (HV.out.below HB2.out)).mono ?_
     rintro e w3 ⟨A, B, rfl, ⟨hz, R', hB⟩, hb3⟩
     have HB3 := Aside0.mk (HB2.out.trans (hb3.mono HB2.out.size))
     have HC2 := Aside0.mk (fun w V => cut2 p.2 B hz R' hB w V)
     clear hb3 hB hz
     go_wp2_with fail
     refine (HC2.out _ (HV.out.below HB3.out)).mono ?_
     rintro e w4 ⟨C, D, ok, rfl, hC, hb4⟩
     have HB4 := Aside0.mk (HB3.out.trans (hb4.mono HB3.out.size))
     have HPC := Aside0.mk (fun w V => HPS.out C hC w V)
     clear hb4 hC
     go_wp2_with fail
     refine (HPC.out _ (HV.out.below HB4.out)).mono ?_
     rintro e w5 ⟨v, rfl, ho, hb5⟩
     have HO := Aside0.mk (Kd.R_lower ho HB4.out.size)
     have HN := Aside0.mk (HB4.out.trans (hb5.mono HB4.out.size))
     clear ho hb5
     go_wp2
     go_ret
     exact ⟨_, rfl, by rw [HF.out]; exact HO.out, HN.out⟩)
end Go.Proofs.YtocapbnnkfjacaaDoor.G
