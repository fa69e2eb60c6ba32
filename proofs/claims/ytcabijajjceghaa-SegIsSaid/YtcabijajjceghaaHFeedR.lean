/- The machine's side of the reference's Feed (layer 12), by hand, over what the plain one says. No condition. (Printed by mkfeedr.py.) -/
import Derived.RegionTactic
import Derived.BigRegion
import Derived.Deep.DeepMust
import Derived.Test.YtcabijajjceghaaHFeed
import Derived.Test.YtcabijajjceghaaClusR
import Derived.Test.YtcabijajjceghaaG17
namespace Go.Proofs.Ytcabijajjceghaa.G
open Go.RowKit Go.Proofs.YtcabijajjceghaaW.PrintWords Go.Proofs.YtcabijajjceghaaW.PrintLast Go.Proofs.YtcabijajjceghaaW.PrintMore
set_option linter.unusedVariables false
set_option linter.unusedSimpArgs false

theorem rsegSane_is (C : List Int) (s : CS) : pentroughref12_Sane.f C s.on s.kind s.pict s.odd = some (saneG C s) := by
  unfold pentroughref12_Sane.f saneG
  rw [rSane_is s]
  by_cases h : C.length ≤ 32
  · rw [if_pos (by omega), decide_eq_true h]
    cases saneC s <;> by_cases h0 : 0 < C.length <;> simp [h0]
  · rw [if_neg (by omega), decide_eq_false h]
    simp
def pentroughref12_Feed.f (l0_0 : List Int) (a0_1 : Bool) (a0_2 : Int) (a0_3 : Bool) (a0_4 : Bool) (a1 : Int) : Option (List Int × Bool × Int × Bool × Bool × List Int) := some (tup6 (feedP l0_0 ⟨a0_1, a0_2, a0_3, a0_4⟩ a1))

set_option maxHeartbeats 4000000 in
set_option maxRecDepth 100000 in
theorem rfeed_bad (P0_0_ : Nat → Prop) (A0_0 : Option Addr) (c0_0 : Nat) (l0_0 : List Int) (s : CS) (a1 : Int) (w : World) (hs0_0 : Kd.V (Kd.int .i64) 3 w w.heap.size (fun k_ => P0_0_ k_) (.slice A0_0 l0_0.length c0_0) l0_0) (hsn : saneG l0_0 s = false) :
    Calls Try.prog 33 #[.agg #[.slice A0_0 l0_0.length c0_0, .bool s.on, .int .i64 s.kind, .bool s.pict, .bool s.odd], .int .i64 a1] w fun e w' => ∃ v0_ v5_ : Value, e = .returned (.tuple #[.agg #[v0_, .bool (nextS c0 a1).on, .int .i64 (nextS c0 a1).kind, .bool (nextS c0 a1).pict, .bool (nextS c0 a1).odd], v5_]) ∧ Kd.V (Kd.int .i64) 3 w' w.heap.size (fun k_ => (P0_0_ k_ ∨ w.heap.size ≤ k_)) v0_ [a1] ∧ Kd.V (Kd.int .i64) 3 w' w.heap.size (fun k_ => (P0_0_ k_ ∨ w.heap.size ≤ k_)) v5_ ([] : List Int) ∧ Below w.heap.size w w' := by
  obtain ⟨_, hc, hF⟩ := Kd.V_at hs0_0
  have HC := Aside0.mk hc
  have HF := Aside0.mk hF
  have HS := Aside0.mk (rsegSane_is l0_0 s)
  rw [hsn] at HS
  obtain ⟨on, kd, p, o⟩ := s
  obtain ⟨nx, hnx⟩ : ∃ q : CS, nextS c0 a1 = q := ⟨_, rfl⟩
  obtain ⟨n1, n2, n3, n4⟩ := nx
  have HN := Aside0.mk (rNext_is c0 a1)
  rw [hnx] at HN ⊢
  simp only [c0] at HN
  clear hs0_0 hc hF hsn hnx
  simp only [tup] at HN ⊢
  go_enter Try.func33, Try.ntmps33
  go_wp2_with fail
  refine (pentroughref12_Sane.calls A0_0 c0_0 l0_0 on kd p o false _ (Kd.F_now (Kd.F_alloc (Kd.F_alloc HF.out _) _)) HC.out HS.out).mono ?_
  rintro e w1 ⟨rfl, hB1⟩
  have HB1 := Aside0.mk ((((Below.refl w.heap.size w).alloc (Nat.le_refl _) _).alloc (by simp) _).trans (hB1.mono (by simp; omega)))
  have hz1 : w.heap.size + 1 < w1.heap.size := by have := hB1.size; simp at this; omega
  have K1 := blk_below (blk_alloc (blk_new w (.cells #[.slice A0_0 l0_0.length c0_0, .bool on, .int .i64 kd, .bool p, .bool o] 48)) (.cells #[.slice none 0 0, .bool false, .int .i64 0, .bool false, .bool false] 48)) hB1
  have J1 := blk_below (blk_new (w.alloc (.cells #[.slice A0_0 l0_0.length c0_0, .bool on, .int .i64 kd, .bool p, .bool o] 48)) (.cells #[.slice none 0 0, .bool false, .int .i64 0, .bool false, .bool false] 48)) hB1
  rw [show (w.alloc (.cells #[.slice A0_0 l0_0.length c0_0, .bool on, .int .i64 kd, .bool p, .bool o] 48)).heap.size = w.heap.size + 1 by simp] at J1
  clear hB1
  have KK := Aside0.mk (blk_put (cs' := #[.slice none 0 0, .bool false, .int .i64 0, .bool false, .bool false]) (blk_put (cs' := #[.slice none 0 0, .bool false, .int .i64 0, .bool false, .bool o]) (blk_put (cs' := #[.slice none 0 0, .bool false, .int .i64 0, .bool p, .bool o]) (blk_put (cs' := #[.slice none 0 0, .bool false, .int .i64 kd, .bool p, .bool o]) (blk_put (cs' := #[.slice none 0 0, .bool on, .int .i64 kd, .bool p, .bool o]) K1 0 (.slice none 0 0) rfl) 1 (.bool false) rfl) 2 (.int .i64 0) rfl) 3 (.bool false) rfl) 4 (.bool false) rfl)
  have JJ := Aside0.mk (blk_far (blk_far (blk_far (blk_far (blk_far J1 (p := ⟨w.heap.size, 0, none⟩) (by simp) (.slice none 0 0)) (p := ⟨w.heap.size, 1, none⟩) (by simp) (.bool false)) (p := ⟨w.heap.size, 2, none⟩) (by simp) (.int .i64 0)) (p := ⟨w.heap.size, 3, none⟩) (by simp) (.bool false)) (p := ⟨w.heap.size, 4, none⟩) (by simp) (.bool false))
  have HBx := Aside0.mk (Below.setCell (Below.setCell (Below.setCell (Below.setCell (Below.setCell HB1.out (p := ⟨w.heap.size, 0, none⟩) (by simp) (.slice none 0 0)) (p := ⟨w.heap.size, 1, none⟩) (by simp) (.bool false)) (p := ⟨w.heap.size, 2, none⟩) (by simp) (.int .i64 0)) (p := ⟨w.heap.size, 3, none⟩) (by simp) (.bool false)) (p := ⟨w.heap.size, 4, none⟩) (by simp) (.bool false))
  have f0 := blk_frozen K1 0
  have f1 := blk_frozen K1 1
  have f2 := blk_frozen K1 2
  have f3 := blk_frozen K1 3
  have f4 := blk_frozen K1 4
  have k0 := blk_cell K1 0
  have k1 := blk_cell K1 1
  have k2 := blk_cell K1 2
  have k3 := blk_cell K1 3
  have k4 := blk_cell K1 4
  clear K1 J1
  go_wp2_with fail
  refine (pentroughref11_Next.calls false 0 false false a1 n1 n2 n3 n4 _ HN.out).mono ?_
  rintro e w2 ⟨rfl, hB2⟩
  have hz2 : w.heap.size + 1 < w2.heap.size := by have := hB2.size; (try simp at this); omega
  have HB2 := Aside0.mk (HBx.out.trans (hB2.mono (by (try simp); omega)))
  have K2 := Aside0.mk (blk_below KK.out hB2)
  have J2 := Aside0.mk (blk_below JJ.out hB2)
  clear hB2 KK JJ HBx
  clear k0 k1 k2 k3 k4 f0 f1 f2 f3 f4
  have hy2 : w.heap.size < w2.heap.size := by omega
  have K3 := Aside0.mk (blk_alloc K2.out (.cells #[.bool n1, .int .i64 n2, .bool n3, .bool n4] 46))
  have J3 := Aside0.mk (blk_alloc J2.out (.cells #[.bool n1, .int .i64 n2, .bool n3, .bool n4] 46))
  have M3 := Aside0.mk (blk_new w2 (.cells #[.bool n1, .int .i64 n2, .bool n3, .bool n4] 46))
  have k0 := blk_cell K2.out 0
  have k1 := blk_cell K2.out 1
  have k2 := blk_cell K2.out 2
  have k3 := blk_cell K2.out 3
  have k4 := blk_cell K2.out 4
  have hsz : (w2.alloc (.cells #[.bool n1, .int .i64 n2, .bool n3, .bool n4] 46)).heap.size = w2.heap.size + 1 := by simp
  have HB4 := Aside0.mk (HB2.out.alloc (by omega) (.cells #[.bool n1, .int .i64 n2, .bool n3, .bool n4] 46))
  have hz4 : w.heap.size + 1 < w2.heap.size + 1 := by omega
  have hm4 : w2.heap.size < w2.heap.size + 1 := by omega
  go_wp2_with (first
    | ((with_reducible refine gate_dst (N := 38) rfl ?_); go_must (refine Kd.R_lit (Kd.int .i64) (w0 := (w2.alloc (.cells #[.bool n1, .int .i64 n2, .bool n3, .bool n4] 46))) (w2.heap.size + 1) 3 ?hg (N := 38) ?hd (xs := ([] : List Int)) (inner := []) (ok := fun k => (w2.heap.size + 1) ≤ k) (okp := fun k => (w2.heap.size + 1) ≤ k) ?hr ?hp (fun _ hk => hk) (by (try rw [hsz]); exact Nat.le_refl _) (Below.refl _ _) (by (try rw [hsz]); exact Nat.le_refl _) (by simp) ?_; (case hd => rfl); (case hg => rfl); (case hr => first | kernel_rfl | (go_simp; done) | (go_simp; rfl)); (case hp => exact (Reps.none _ _)); intro v5 w5 ho hb hg_ hnew_; clear hg_ hnew_; have HV5 := Aside0.mk ho; have H5 := Aside0.mk hb; have hz5 : (w2.heap.size + 1) ≤ w5.heap.size := (by have := hb.size; (try simp at this); omega); have k5 := blk_cell (blk_below K3.out (by rw [hsz]; exact hb)) 0; clear ho hb))
    | ((with_reducible refine gate_dst (N := 40) rfl ?_); go_must (refine Kd.event_run (v := .slice none 0 0) (w1 := w5) rfl (by go_simp) ?_))
    | ((with_reducible refine gate_builtin (b := .append) (xs := #[.tmp 38, .tmp 40]) rfl ?_); at_builtin; go_must (refine Kd.R_append_rows (Kd.int .i64) (w0 := (w2.alloc (.cells #[.bool n1, .int .i64 n2, .bool n3, .bool n4] 46))) (w2.heap.size + 1) rfl (.tmp 38) (.tmp 40) 22 3 (.int .i64 0) 8 rfl Try.underlying22 info3 rfl (by decide) (by omega) v5 [] [] none 0 0 (fun k => (w2.heap.size + 1) ≤ k) (fun _ => False) rfl rfl HV5.out (Kd.C_nil _ _) (fun _ _ h => h) (fun _ h => h.elim) (fun k hk => Nat.le_trans hz5 hk) H5.out hz5 (by simp) ?_; intro v6 w6 ho hb hg hat; have HV6 := Aside0.mk ho; have H6 := Aside0.mk hb; have hz6 : (w2.heap.size + 1) ≤ w6.heap.size := Nat.le_trans hz5 hg.size; clear ho hb hg hat))
    | ((with_reducible refine gate_builtin (b := .append) (xs := #[.tmp 42, .tmp 44]) rfl ?_); at_builtin; refine Kd.R_append (Kd.int .i64) (w0 := (w2.alloc (.cells #[.bool n1, .int .i64 n2, .bool n3, .bool n4] 46))) (w2.heap.size + 1) rfl (.tmp 42) (.tmp 44) 22 3 (.int .i64 0) 8 rfl Try.underlying22 info3 rfl (by decide) (by decide) v6 ([] ++ []) a1 [.int .i64 a1] (fun k => (w2.heap.size + 1) ≤ k) (fun _ => False) rfl rfl rfl (fun _ hk => hk.elim) (fun k hk => Nat.le_trans hz6 hk) HV6.out H6.out hz6 (by simp) ?_; intro v7 w7 ho hb hg hat; go_must (have HO7 := Aside0.mk ho; obtain ⟨A7, d7, e7⟩ := Kd.R_slice ho; have M7 := Aside0.mk (blk_below M3.out (by rw [hsz]; exact hb)); have J7 := Aside0.mk (blk_below J3.out (by rw [hsz]; exact hb)); have hz7 : (w2.heap.size + 1) ≤ w7.heap.size := Nat.le_trans hz6 hg.size; have HB7 := Aside0.mk (HB4.out.trans (hb.mono (by omega))); clear hg hat hb ho; simp only [List.nil_append, List.length_append, List.length_singleton, List.length_nil, Nat.zero_add] at e7; subst e7; have m0 := blk_cell M7.out 0; have m1 := blk_cell M7.out 1; have m2 := blk_cell M7.out 2; have m3 := blk_cell M7.out 3; have y0 := blk_cell J7.out 0; have y1 := blk_cell J7.out 1; have y2 := blk_cell J7.out 2; have y3 := blk_cell J7.out 3; have y4 := blk_cell J7.out 4; have h0 := blk_frozen J7.out 0; have h1 := blk_frozen J7.out 1; have h2 := blk_frozen J7.out 2; have h3 := blk_frozen J7.out 3; have h4 := blk_frozen J7.out 4))
    )
  have hz8 : w.heap.size + 1 < w7.heap.size := by omega
  refine bodyPost_ret (v := .tuple #[.agg #[.slice A7 (1) d7, .bool n1, .int .i64 n2, .bool n3, .bool n4], .slice none 0 0]) (by simp [results, Try.results33, go_sem, y0, y1, y2, y3, y4, hz8]) rfl ⟨.slice A7 (1) d7, .slice none 0 0, rfl, ?_, Kd.V_nil _ _ _ _ _, ?_⟩
  · refine Kd.V_mono (ok := fun k => (w2.heap.size + 1) ≤ k) ?_ (fun k hk => .inr (by omega))
    iterate 5 (refine Kd.V_far ?_ (fun k hk => by simp <;> omega) _)
    exact Kd.R_V HO7.out
  · iterate 5 (refine Below.setCell ?_ (by simp <;> omega) _)
    exact HB7.out
set_option maxHeartbeats 4000000 in
set_option maxRecDepth 100000 in
theorem rfeed_nil (P0_0_ : Nat → Prop) (A0_0 : Option Addr) (c0_0 : Nat) (l0_0 : List Int) (s : CS) (a1 : Int) (w : World) (hs0_0 : Kd.V (Kd.int .i64) 3 w w.heap.size (fun k_ => P0_0_ k_) (.slice A0_0 l0_0.length c0_0) l0_0) (hsn : saneG l0_0 s = true) (hnl : l0_0.length = 0) :
    Calls Try.prog 33 #[.agg #[.slice A0_0 l0_0.length c0_0, .bool s.on, .int .i64 s.kind, .bool s.pict, .bool s.odd], .int .i64 a1] w fun e w' => ∃ v0_ v5_ : Value, e = .returned (.tuple #[.agg #[v0_, .bool (nextS s a1).on, .int .i64 (nextS s a1).kind, .bool (nextS s a1).pict, .bool (nextS s a1).odd], v5_]) ∧ Kd.V (Kd.int .i64) 3 w' w.heap.size (fun k_ => (P0_0_ k_ ∨ w.heap.size ≤ k_)) v0_ (l0_0 ++ [a1]) ∧ Kd.V (Kd.int .i64) 3 w' w.heap.size (fun k_ => (P0_0_ k_ ∨ w.heap.size ≤ k_)) v5_ ([] : List Int) ∧ Below w.heap.size w w' := by
  obtain ⟨_, hc, hF⟩ := Kd.V_at hs0_0
  have HC := Aside0.mk hc
  have HF := Aside0.mk hF
  have HS := Aside0.mk (rsegSane_is l0_0 s)
  rw [hsn] at HS
  obtain ⟨on, kd, p, o⟩ := s
  obtain ⟨nx, hnx⟩ : ∃ q : CS, nextS ⟨on, kd, p, o⟩ a1 = q := ⟨_, rfl⟩
  obtain ⟨n1, n2, n3, n4⟩ := nx
  have HN := Aside0.mk (rNext_is ⟨on, kd, p, o⟩ a1)
  rw [hnx] at HN ⊢
  have HLn := Aside0.mk (show l0_0.length ≤ 32 by unfold saneG at hsn; simp at hsn; exact hsn.1)
  have e0 : decide (0 < l0_0.length) = false := decide_eq_false (by omega)
  clear hs0_0 hc hF hsn hnx hnl
  simp only [tup] at HN ⊢
  go_enter Try.func33, Try.ntmps33
  go_wp2_with fail
  refine (pentroughref12_Sane.calls A0_0 c0_0 l0_0 on kd p o true _ (Kd.F_now (Kd.F_alloc (Kd.F_alloc HF.out _) _)) HC.out HS.out).mono ?_
  rintro e w1 ⟨rfl, hB1⟩
  have HB1 := Aside0.mk ((((Below.refl w.heap.size w).alloc (Nat.le_refl _) _).alloc (by simp) _).trans (hB1.mono (by simp; omega)))
  have hz1 : w.heap.size + 1 < w1.heap.size := by have := hB1.size; simp at this; omega
  have K1 := blk_below (blk_alloc (blk_new w (.cells #[.slice A0_0 l0_0.length c0_0, .bool on, .int .i64 kd, .bool p, .bool o] 48)) (.cells #[.slice none 0 0, .bool false, .int .i64 0, .bool false, .bool false] 48)) hB1
  have J1 := blk_below (blk_new (w.alloc (.cells #[.slice A0_0 l0_0.length c0_0, .bool on, .int .i64 kd, .bool p, .bool o] 48)) (.cells #[.slice none 0 0, .bool false, .int .i64 0, .bool false, .bool false] 48)) hB1
  rw [show (w.alloc (.cells #[.slice A0_0 l0_0.length c0_0, .bool on, .int .i64 kd, .bool p, .bool o] 48)).heap.size = w.heap.size + 1 by simp] at J1
  clear hB1
  have KK := Aside0.mk K1
  have JJ := Aside0.mk J1
  have HBx := HB1
  have k0 := blk_cell K1 0
  have k1 := blk_cell K1 1
  have k2 := blk_cell K1 2
  have k3 := blk_cell K1 3
  have k4 := blk_cell K1 4
  clear K1 J1
  go_wp2_with fail
  refine (pentroughref11_Next.calls on kd p o a1 n1 n2 n3 n4 _ HN.out).mono ?_
  rintro e w2 ⟨rfl, hB2⟩
  have hz2 : w.heap.size + 1 < w2.heap.size := by have := hB2.size; (try simp at this); omega
  have HB2 := Aside0.mk (HBx.out.trans (hB2.mono (by (try simp); omega)))
  have K2 := Aside0.mk (blk_below KK.out hB2)
  have J2 := Aside0.mk (blk_below JJ.out hB2)
  clear hB2 KK JJ HBx
  clear k0 k1 k2 k3 k4
  have hy2 : w.heap.size < w2.heap.size := by omega
  have K3 := Aside0.mk (blk_alloc K2.out (.cells #[.bool n1, .int .i64 n2, .bool n3, .bool n4] 46))
  have J3 := Aside0.mk (blk_alloc J2.out (.cells #[.bool n1, .int .i64 n2, .bool n3, .bool n4] 46))
  have M3 := Aside0.mk (blk_new w2 (.cells #[.bool n1, .int .i64 n2, .bool n3, .bool n4] 46))
  have k0 := blk_cell K2.out 0
  have k1 := blk_cell K2.out 1
  have k2 := blk_cell K2.out 2
  have k3 := blk_cell K2.out 3
  have k4 := blk_cell K2.out 4
  have hsz : (w2.alloc (.cells #[.bool n1, .int .i64 n2, .bool n3, .bool n4] 46)).heap.size = w2.heap.size + 1 := by simp
  have HB4 := Aside0.mk (HB2.out.alloc (by omega) (.cells #[.bool n1, .int .i64 n2, .bool n3, .bool n4] 46))
  have hz4 : w.heap.size + 1 < w2.heap.size + 1 := by omega
  have hm4 : w2.heap.size < w2.heap.size + 1 := by omega
  go_wp2_with (first
    | ((with_reducible refine gate_dst (N := 38) rfl ?_); go_must (refine Kd.R_lit (Kd.int .i64) (w0 := (w2.alloc (.cells #[.bool n1, .int .i64 n2, .bool n3, .bool n4] 46))) (w2.heap.size + 1) 3 ?hg (N := 38) ?hd (xs := ([] : List Int)) (inner := []) (ok := fun k => (w2.heap.size + 1) ≤ k) (okp := fun k => (w2.heap.size + 1) ≤ k) ?hr ?hp (fun _ hk => hk) (by (try rw [hsz]); exact Nat.le_refl _) (Below.refl _ _) (by (try rw [hsz]); exact Nat.le_refl _) (by simp) ?_; (case hd => rfl); (case hg => rfl); (case hr => first | kernel_rfl | (go_simp; done) | (go_simp; rfl)); (case hp => exact (Reps.none _ _)); intro v5 w5 ho hb hg_ hnew_; clear hg_ hnew_; have HV5 := Aside0.mk ho; have H5 := Aside0.mk hb; have hz5 : (w2.heap.size + 1) ≤ w5.heap.size := (by have := hb.size; (try simp at this); omega); have k5 := blk_cell (blk_below K3.out (by rw [hsz]; exact hb)) 0; clear ho hb))
    | ((with_reducible refine gate_dst (N := 40) rfl ?_); go_must (refine Kd.event_run (v := .slice A0_0 l0_0.length c0_0) (w1 := w5) rfl (by go_simp) ?_))
    | ((with_reducible refine gate_builtin (b := .append) (xs := #[.tmp 38, .tmp 40]) rfl ?_); at_builtin; go_must (refine Kd.R_append_rows (Kd.int .i64) (w0 := (w2.alloc (.cells #[.bool n1, .int .i64 n2, .bool n3, .bool n4] 46))) (w2.heap.size + 1) rfl (.tmp 38) (.tmp 40) 22 3 (.int .i64 0) 8 rfl Try.underlying22 info3 rfl (by decide) (by omega) v5 [] l0_0 A0_0 l0_0.length c0_0 (fun k => (w2.heap.size + 1) ≤ k) (fun _ => False) rfl rfl HV5.out (Kd.F_now (Kd.F_below HF.out (HB4.out.trans (H5.out.mono (by omega))))) (fun _ _ h => h) (fun _ h => h.elim) (fun k hk => Nat.le_trans hz5 hk) H5.out hz5 (by have := HLn.out; simp only [List.length_nil, List.nil_append, Nat.zero_add]; omega) ?_; intro v6 w6 ho hb hg hat; have HV6 := Aside0.mk ho; have H6 := Aside0.mk hb; have hz6 : (w2.heap.size + 1) ≤ w6.heap.size := Nat.le_trans hz5 hg.size; clear ho hb hg hat))
    | ((with_reducible refine gate_builtin (b := .append) (xs := #[.tmp 42, .tmp 44]) rfl ?_); at_builtin; refine Kd.R_append (Kd.int .i64) (w0 := (w2.alloc (.cells #[.bool n1, .int .i64 n2, .bool n3, .bool n4] 46))) (w2.heap.size + 1) rfl (.tmp 42) (.tmp 44) 22 3 (.int .i64 0) 8 rfl Try.underlying22 info3 rfl (by decide) (by decide) v6 ([] ++ l0_0) a1 [.int .i64 a1] (fun k => (w2.heap.size + 1) ≤ k) (fun _ => False) rfl rfl rfl (fun _ hk => hk.elim) (fun k hk => Nat.le_trans hz6 hk) HV6.out H6.out hz6 (by have := HLn.out; simp only [List.length_nil, List.nil_append, Nat.zero_add]; omega) ?_; intro v7 w7 ho hb hg hat; go_must (have HO7 := Aside0.mk ho; obtain ⟨A7, d7, e7⟩ := Kd.R_slice ho; have M7 := Aside0.mk (blk_below M3.out (by rw [hsz]; exact hb)); have J7 := Aside0.mk (blk_below J3.out (by rw [hsz]; exact hb)); have hz7 : (w2.heap.size + 1) ≤ w7.heap.size := Nat.le_trans hz6 hg.size; have HB7 := Aside0.mk (HB4.out.trans (hb.mono (by omega))); clear hg hat hb ho; simp only [List.nil_append, List.length_append, List.length_singleton, List.length_nil, Nat.zero_add] at e7; subst e7; have m0 := blk_cell M7.out 0; have m1 := blk_cell M7.out 1; have m2 := blk_cell M7.out 2; have m3 := blk_cell M7.out 3; have y0 := blk_cell J7.out 0; have y1 := blk_cell J7.out 1; have y2 := blk_cell J7.out 2; have y3 := blk_cell J7.out 3; have y4 := blk_cell J7.out 4; have h0 := blk_frozen J7.out 0; have h1 := blk_frozen J7.out 1; have h2 := blk_frozen J7.out 2; have h3 := blk_frozen J7.out 3; have h4 := blk_frozen J7.out 4))
    )
  have hz8 : w.heap.size + 1 < w7.heap.size := by omega
  refine bodyPost_ret (v := .tuple #[.agg #[.slice A7 (l0_0.length + 1) d7, .bool n1, .int .i64 n2, .bool n3, .bool n4], .slice none 0 0]) (by simp [results, Try.results33, go_sem, y0, y1, y2, y3, y4, hz8]) rfl ⟨.slice A7 (l0_0.length + 1) d7, .slice none 0 0, rfl, ?_, Kd.V_nil _ _ _ _ _, ?_⟩
  · refine Kd.V_mono (ok := fun k => (w2.heap.size + 1) ≤ k) ?_ (fun k hk => .inr (by omega))
    iterate 5 (refine Kd.V_far ?_ (fun k hk => by simp <;> omega) _)
    exact Kd.R_V HO7.out
  · iterate 5 (refine Below.setCell ?_ (by simp <;> omega) _)
    exact HB7.out
set_option maxHeartbeats 4000000 in
set_option maxRecDepth 100000 in
theorem rfeed_on (P0_0_ : Nat → Prop) (A0_0 : Option Addr) (c0_0 : Nat) (l0_0 : List Int) (s : CS) (a1 : Int) (w : World) (hs0_0 : Kd.V (Kd.int .i64) 3 w w.heap.size (fun k_ => P0_0_ k_) (.slice A0_0 l0_0.length c0_0) l0_0) (hsn : saneG l0_0 s = true) (hnl : 0 < l0_0.length) (hen : endsS s a1 = false) (h32 : l0_0.length ≠ 32) :
    Calls Try.prog 33 #[.agg #[.slice A0_0 l0_0.length c0_0, .bool s.on, .int .i64 s.kind, .bool s.pict, .bool s.odd], .int .i64 a1] w fun e w' => ∃ v0_ v5_ : Value, e = .returned (.tuple #[.agg #[v0_, .bool (nextS s a1).on, .int .i64 (nextS s a1).kind, .bool (nextS s a1).pict, .bool (nextS s a1).odd], v5_]) ∧ Kd.V (Kd.int .i64) 3 w' w.heap.size (fun k_ => (P0_0_ k_ ∨ w.heap.size ≤ k_)) v0_ (l0_0 ++ [a1]) ∧ Kd.V (Kd.int .i64) 3 w' w.heap.size (fun k_ => (P0_0_ k_ ∨ w.heap.size ≤ k_)) v5_ ([] : List Int) ∧ Below w.heap.size w w' := by
  obtain ⟨_, hc, hF⟩ := Kd.V_at hs0_0
  have HC := Aside0.mk hc
  have HF := Aside0.mk hF
  have HS := Aside0.mk (rsegSane_is l0_0 s)
  rw [hsn] at HS
  obtain ⟨on, kd, p, o⟩ := s
  obtain ⟨nx, hnx⟩ : ∃ q : CS, nextS ⟨on, kd, p, o⟩ a1 = q := ⟨_, rfl⟩
  obtain ⟨n1, n2, n3, n4⟩ := nx
  have HN := Aside0.mk (rNext_is ⟨on, kd, p, o⟩ a1)
  rw [hnx] at HN ⊢
  have HLn := Aside0.mk (show l0_0.length ≤ 32 by unfold saneG at hsn; simp at hsn; exact hsn.1)
  have HU := Aside0.mk (rEnds_is 100 ⟨on, kd, p, o⟩ a1 (by decide))
  rw [hen] at HU
  have e0 : decide (0 < l0_0.length) = true := decide_eq_true (by omega)
  have e32 : ((l0_0.length : Int) == 32) = false := beq_eq_false_iff_ne.2 (by omega)
  clear hs0_0 hc hF hsn hnx hnl hen h32
  simp only [tup] at HN ⊢
  go_enter Try.func33, Try.ntmps33
  go_wp2_with fail
  refine (pentroughref12_Sane.calls A0_0 c0_0 l0_0 on kd p o true _ (Kd.F_now (Kd.F_alloc (Kd.F_alloc HF.out _) _)) HC.out HS.out).mono ?_
  rintro e w1 ⟨rfl, hB1⟩
  have HB1 := Aside0.mk ((((Below.refl w.heap.size w).alloc (Nat.le_refl _) _).alloc (by simp) _).trans (hB1.mono (by simp; omega)))
  have hz1 : w.heap.size + 1 < w1.heap.size := by have := hB1.size; simp at this; omega
  have K1 := blk_below (blk_alloc (blk_new w (.cells #[.slice A0_0 l0_0.length c0_0, .bool on, .int .i64 kd, .bool p, .bool o] 48)) (.cells #[.slice none 0 0, .bool false, .int .i64 0, .bool false, .bool false] 48)) hB1
  have J1 := blk_below (blk_new (w.alloc (.cells #[.slice A0_0 l0_0.length c0_0, .bool on, .int .i64 kd, .bool p, .bool o] 48)) (.cells #[.slice none 0 0, .bool false, .int .i64 0, .bool false, .bool false] 48)) hB1
  rw [show (w.alloc (.cells #[.slice A0_0 l0_0.length c0_0, .bool on, .int .i64 kd, .bool p, .bool o] 48)).heap.size = w.heap.size + 1 by simp] at J1
  clear hB1
  have KK := Aside0.mk K1
  have JJ := Aside0.mk J1
  have HBx := HB1
  have k0 := blk_cell K1 0
  have k1 := blk_cell K1 1
  have k2 := blk_cell K1 2
  have k3 := blk_cell K1 3
  have k4 := blk_cell K1 4
  clear K1 J1
  go_wp2_with fail
  refine (pentroughref11_Next.calls on kd p o a1 n1 n2 n3 n4 _ HN.out).mono ?_
  rintro e w2 ⟨rfl, hB2⟩
  have hz2 : w.heap.size + 1 < w2.heap.size := by have := hB2.size; (try simp at this); omega
  have HB2 := Aside0.mk (HBx.out.trans (hB2.mono (by (try simp); omega)))
  have K2 := Aside0.mk (blk_below KK.out hB2)
  have J2 := Aside0.mk (blk_below JJ.out hB2)
  clear hB2 KK JJ HBx
  clear k0 k1 k2 k3 k4
  have hy2 : w.heap.size < w2.heap.size := by omega
  have K3 := Aside0.mk (blk_alloc K2.out (.cells #[.bool n1, .int .i64 n2, .bool n3, .bool n4] 46))
  have J3 := Aside0.mk (blk_alloc J2.out (.cells #[.bool n1, .int .i64 n2, .bool n3, .bool n4] 46))
  have M3 := Aside0.mk (blk_new w2 (.cells #[.bool n1, .int .i64 n2, .bool n3, .bool n4] 46))
  have k0 := blk_cell K2.out 0
  have k1 := blk_cell K2.out 1
  have k2 := blk_cell K2.out 2
  have k3 := blk_cell K2.out 3
  have k4 := blk_cell K2.out 4
  go_wp2_with fail
  refine (pentroughref11_Ends.calls 100 on kd p o a1 false _ HU.out).mono ?_
  rintro e w4 ⟨rfl, hB4⟩
  have hz4 : w2.heap.size < w4.heap.size := by have := hB4.size; simp at this; omega
  have hz4' : w.heap.size + 1 < w4.heap.size := by omega
  have HB4 := Aside0.mk ((HB2.out.alloc (by omega) (.cells #[.bool n1, .int .i64 n2, .bool n3, .bool n4] 46)).trans (hB4.mono (by simp; omega)))
  have K4 := Aside0.mk (blk_below K3.out hB4)
  have J4 := Aside0.mk (blk_below J3.out hB4)
  have M4 := Aside0.mk (blk_below M3.out hB4)
  clear hB4 HB2 K2 J2 K3 J3 M3
  clear k0 k1 k2 k3 k4
  have k0 := blk_cell K4.out 0
  have k1 := blk_cell K4.out 1
  have k2 := blk_cell K4.out 2
  have k3 := blk_cell K4.out 3
  have k4 := blk_cell K4.out 4
  go_wp2_with (first
    | ((with_reducible refine gate_dst (N := 38) rfl ?_); go_must (refine Kd.R_lit (Kd.int .i64) (w0 := w4) w4.heap.size 3 ?hg (N := 38) ?hd (xs := ([] : List Int)) (inner := []) (ok := fun k => w4.heap.size ≤ k) (okp := fun k => w4.heap.size ≤ k) ?hr ?hp (fun _ hk => hk) (by (try rw [hsz]); exact Nat.le_refl _) (Below.refl _ _) (by (try rw [hsz]); exact Nat.le_refl _) (by simp) ?_; (case hd => rfl); (case hg => rfl); (case hr => first | kernel_rfl | (go_simp; done) | (go_simp; rfl)); (case hp => exact (Reps.none _ _)); intro v5 w5 ho hb hg_ hnew_; clear hg_ hnew_; have HV5 := Aside0.mk ho; have H5 := Aside0.mk hb; have hz5 : w4.heap.size ≤ w5.heap.size := (by have := hb.size; (try simp at this); omega); have k5 := blk_cell (blk_below K4.out (hb)) 0; clear ho hb))
    | ((with_reducible refine gate_dst (N := 40) rfl ?_); go_must (refine Kd.event_run (v := .slice A0_0 l0_0.length c0_0) (w1 := w5) rfl (by go_simp) ?_))
    | ((with_reducible refine gate_builtin (b := .append) (xs := #[.tmp 38, .tmp 40]) rfl ?_); at_builtin; go_must (refine Kd.R_append_rows (Kd.int .i64) (w0 := w4) w4.heap.size rfl (.tmp 38) (.tmp 40) 22 3 (.int .i64 0) 8 rfl Try.underlying22 info3 rfl (by decide) (by omega) v5 [] l0_0 A0_0 l0_0.length c0_0 (fun k => w4.heap.size ≤ k) (fun _ => False) rfl rfl HV5.out (Kd.F_now (Kd.F_below HF.out (HB4.out.trans (H5.out.mono (by omega))))) (fun _ _ h => h) (fun _ h => h.elim) (fun k hk => Nat.le_trans hz5 hk) H5.out hz5 (by have := HLn.out; simp only [List.length_nil, List.nil_append, Nat.zero_add]; omega) ?_; intro v6 w6 ho hb hg hat; have HV6 := Aside0.mk ho; have H6 := Aside0.mk hb; have hz6 : w4.heap.size ≤ w6.heap.size := Nat.le_trans hz5 hg.size; clear ho hb hg hat))
    | ((with_reducible refine gate_builtin (b := .append) (xs := #[.tmp 42, .tmp 44]) rfl ?_); at_builtin; refine Kd.R_append (Kd.int .i64) (w0 := w4) w4.heap.size rfl (.tmp 42) (.tmp 44) 22 3 (.int .i64 0) 8 rfl Try.underlying22 info3 rfl (by decide) (by decide) v6 ([] ++ l0_0) a1 [.int .i64 a1] (fun k => w4.heap.size ≤ k) (fun _ => False) rfl rfl rfl (fun _ hk => hk.elim) (fun k hk => Nat.le_trans hz6 hk) HV6.out H6.out hz6 (by have := HLn.out; simp only [List.length_nil, List.nil_append, Nat.zero_add]; omega) ?_; intro v7 w7 ho hb hg hat; go_must (have HO7 := Aside0.mk ho; obtain ⟨A7, d7, e7⟩ := Kd.R_slice ho; have M7 := Aside0.mk (blk_below M4.out (hb)); have J7 := Aside0.mk (blk_below J4.out (hb)); have hz7 : w4.heap.size ≤ w7.heap.size := Nat.le_trans hz6 hg.size; have HB7 := Aside0.mk (HB4.out.trans (hb.mono (by omega))); clear hg hat hb ho; simp only [List.nil_append, List.length_append, List.length_singleton, List.length_nil, Nat.zero_add] at e7; subst e7; have m0 := blk_cell M7.out 0; have m1 := blk_cell M7.out 1; have m2 := blk_cell M7.out 2; have m3 := blk_cell M7.out 3; have y0 := blk_cell J7.out 0; have y1 := blk_cell J7.out 1; have y2 := blk_cell J7.out 2; have y3 := blk_cell J7.out 3; have y4 := blk_cell J7.out 4; have h0 := blk_frozen J7.out 0; have h1 := blk_frozen J7.out 1; have h2 := blk_frozen J7.out 2; have h3 := blk_frozen J7.out 3; have h4 := blk_frozen J7.out 4))
    )
  have hz8 : w.heap.size + 1 < w7.heap.size := by omega
  refine bodyPost_ret (v := .tuple #[.agg #[.slice A7 (l0_0.length + 1) d7, .bool n1, .int .i64 n2, .bool n3, .bool n4], .slice none 0 0]) (by simp [results, Try.results33, go_sem, y0, y1, y2, y3, y4, hz8]) rfl ⟨.slice A7 (l0_0.length + 1) d7, .slice none 0 0, rfl, ?_, Kd.V_nil _ _ _ _ _, ?_⟩
  · refine Kd.V_mono (ok := fun k => w4.heap.size ≤ k) ?_ (fun k hk => .inr (by omega))
    iterate 5 (refine Kd.V_far ?_ (fun k hk => by simp <;> omega) _)
    exact Kd.R_V HO7.out
  · iterate 5 (refine Below.setCell ?_ (by simp <;> omega) _)
    exact HB7.out
set_option maxHeartbeats 4000000 in
set_option maxRecDepth 100000 in
theorem rfeed_ends (P0_0_ : Nat → Prop) (A0_0 : Option Addr) (c0_0 : Nat) (l0_0 : List Int) (s : CS) (a1 : Int) (w : World) (hs0_0 : Kd.V (Kd.int .i64) 3 w w.heap.size (fun k_ => P0_0_ k_) (.slice A0_0 l0_0.length c0_0) l0_0) (hsn : saneG l0_0 s = true) (hnl : 0 < l0_0.length) (hen : endsS s a1 = true) :
    Calls Try.prog 33 #[.agg #[.slice A0_0 l0_0.length c0_0, .bool s.on, .int .i64 s.kind, .bool s.pict, .bool s.odd], .int .i64 a1] w fun e w' => ∃ v0_ v5_ : Value, e = .returned (.tuple #[.agg #[v0_, .bool (nextS s a1).on, .int .i64 (nextS s a1).kind, .bool (nextS s a1).pict, .bool (nextS s a1).odd], v5_]) ∧ Kd.V (Kd.int .i64) 3 w' w.heap.size (fun k_ => (P0_0_ k_ ∨ w.heap.size ≤ k_)) v0_ [a1] ∧ Kd.V (Kd.int .i64) 3 w' w.heap.size (fun k_ => (P0_0_ k_ ∨ w.heap.size ≤ k_)) v5_ l0_0 ∧ Below w.heap.size w w' := by
  obtain ⟨_, hc, hF⟩ := Kd.V_at hs0_0
  have HC := Aside0.mk hc
  have HF := Aside0.mk hF
  have HS := Aside0.mk (rsegSane_is l0_0 s)
  rw [hsn] at HS
  obtain ⟨on, kd, p, o⟩ := s
  obtain ⟨nx, hnx⟩ : ∃ q : CS, nextS ⟨on, kd, p, o⟩ a1 = q := ⟨_, rfl⟩
  obtain ⟨n1, n2, n3, n4⟩ := nx
  have HN := Aside0.mk (rNext_is ⟨on, kd, p, o⟩ a1)
  rw [hnx] at HN ⊢
  have HLn := Aside0.mk (show l0_0.length ≤ 32 by unfold saneG at hsn; simp at hsn; exact hsn.1)
  have HU := Aside0.mk (rEnds_is 100 ⟨on, kd, p, o⟩ a1 (by decide))
  rw [hen] at HU
  have e0 : decide (0 < l0_0.length) = true := decide_eq_true (by omega)
  clear hs0_0 hc hF hsn hnx hnl hen
  simp only [tup] at HN ⊢
  go_enter Try.func33, Try.ntmps33
  go_wp2_with fail
  refine (pentroughref12_Sane.calls A0_0 c0_0 l0_0 on kd p o true _ (Kd.F_now (Kd.F_alloc (Kd.F_alloc HF.out _) _)) HC.out HS.out).mono ?_
  rintro e w1 ⟨rfl, hB1⟩
  have HB1 := Aside0.mk ((((Below.refl w.heap.size w).alloc (Nat.le_refl _) _).alloc (by simp) _).trans (hB1.mono (by simp; omega)))
  have hz1 : w.heap.size + 1 < w1.heap.size := by have := hB1.size; simp at this; omega
  have K1 := blk_below (blk_alloc (blk_new w (.cells #[.slice A0_0 l0_0.length c0_0, .bool on, .int .i64 kd, .bool p, .bool o] 48)) (.cells #[.slice none 0 0, .bool false, .int .i64 0, .bool false, .bool false] 48)) hB1
  have J1 := blk_below (blk_new (w.alloc (.cells #[.slice A0_0 l0_0.length c0_0, .bool on, .int .i64 kd, .bool p, .bool o] 48)) (.cells #[.slice none 0 0, .bool false, .int .i64 0, .bool false, .bool false] 48)) hB1
  rw [show (w.alloc (.cells #[.slice A0_0 l0_0.length c0_0, .bool on, .int .i64 kd, .bool p, .bool o] 48)).heap.size = w.heap.size + 1 by simp] at J1
  clear hB1
  have KK := Aside0.mk K1
  have JJ := Aside0.mk J1
  have HBx := HB1
  have k0 := blk_cell K1 0
  have k1 := blk_cell K1 1
  have k2 := blk_cell K1 2
  have k3 := blk_cell K1 3
  have k4 := blk_cell K1 4
  clear K1 J1
  go_wp2_with fail
  refine (pentroughref11_Next.calls on kd p o a1 n1 n2 n3 n4 _ HN.out).mono ?_
  rintro e w2 ⟨rfl, hB2⟩
  have hz2 : w.heap.size + 1 < w2.heap.size := by have := hB2.size; (try simp at this); omega
  have HB2 := Aside0.mk (HBx.out.trans (hB2.mono (by (try simp); omega)))
  have K2 := Aside0.mk (blk_below KK.out hB2)
  have J2 := Aside0.mk (blk_below JJ.out hB2)
  clear hB2 KK JJ HBx
  clear k0 k1 k2 k3 k4
  have hy2 : w.heap.size < w2.heap.size := by omega
  have K3 := Aside0.mk (blk_alloc K2.out (.cells #[.bool n1, .int .i64 n2, .bool n3, .bool n4] 46))
  have J3 := Aside0.mk (blk_alloc J2.out (.cells #[.bool n1, .int .i64 n2, .bool n3, .bool n4] 46))
  have M3 := Aside0.mk (blk_new w2 (.cells #[.bool n1, .int .i64 n2, .bool n3, .bool n4] 46))
  have k0 := blk_cell K2.out 0
  have k1 := blk_cell K2.out 1
  have k2 := blk_cell K2.out 2
  have k3 := blk_cell K2.out 3
  have k4 := blk_cell K2.out 4
  go_wp2_with fail
  refine (pentroughref11_Ends.calls 100 on kd p o a1 true _ HU.out).mono ?_
  rintro e w4 ⟨rfl, hB4⟩
  have hz4 : w2.heap.size < w4.heap.size := by have := hB4.size; simp at this; omega
  have hz4' : w.heap.size + 1 < w4.heap.size := by omega
  have HB4 := Aside0.mk ((HB2.out.alloc (by omega) (.cells #[.bool n1, .int .i64 n2, .bool n3, .bool n4] 46)).trans (hB4.mono (by simp; omega)))
  have K4 := Aside0.mk (blk_below K3.out hB4)
  have J4 := Aside0.mk (blk_below J3.out hB4)
  have M4 := Aside0.mk (blk_below M3.out hB4)
  clear hB4 HB2 K2 J2 K3 J3 M3
  clear k0 k1 k2 k3 k4
  have k0 := blk_cell K4.out 0
  have k1 := blk_cell K4.out 1
  have k2 := blk_cell K4.out 2
  have k3 := blk_cell K4.out 3
  have k4 := blk_cell K4.out 4
  have m0 := blk_cell M4.out 0
  have m1 := blk_cell M4.out 1
  have m2 := blk_cell M4.out 2
  have m3 := blk_cell M4.out 3
  have y0 := blk_cell J4.out 0
  have y1 := blk_cell J4.out 1
  have y2 := blk_cell J4.out 2
  have y3 := blk_cell J4.out 3
  have y4 := blk_cell J4.out 4
  have h0 := blk_frozen J4.out 0
  have h1 := blk_frozen J4.out 1
  have h2 := blk_frozen J4.out 2
  have h3 := blk_frozen J4.out 3
  have h4 := blk_frozen J4.out 4
  have hw : w.heap.size < w4.heap.size := by omega
  have hw1 : w.heap.size + 1 < w4.heap.size := by omega
  have hw2 : ¬ w.heap.size = w2.heap.size := by omega
  have hw3 : ¬ w.heap.size + 1 = w2.heap.size := by omega
  go_wp2
  go_region
  all_goals
    go_wp2
    refine bodyPost_ret (v := .tuple #[.agg #[.slice (some ⟨w4.heap.size, 0, none⟩) 1 1, .bool n1, .int .i64 n2, .bool n3, .bool n4], .slice A0_0 l0_0.length c0_0]) (by simp [results, Try.results33, go_sem, y0, y1, y2, y3, y4, hz4, hw, hw1]) rfl ⟨.slice (some ⟨w4.heap.size, 0, none⟩) 1 1, .slice A0_0 l0_0.length c0_0, rfl, ?_, V_low HF.out HC.out ?_ (fun k hk => .inl hk), ?_⟩
    · refine Kd.V_mono (ok := fun k => w4.heap.size ≤ k) ?_ (fun k hk => .inr (by omega))
      exact one_lit' _ w4.heap.size a1 (by simp)
    · refine below_drew ?_
      refine Below.alloc ?_ (by simp; omega) _
      iterate 5 (refine Below.setCell ?_ (by simp <;> omega) _)
      exact HB4.out
    · refine below_drew ?_
      refine Below.alloc ?_ (by simp; omega) _
      iterate 5 (refine Below.setCell ?_ (by simp <;> omega) _)
      exact HB4.out
set_option maxHeartbeats 4000000 in
set_option maxRecDepth 100000 in
theorem rfeed_cap (P0_0_ : Nat → Prop) (A0_0 : Option Addr) (c0_0 : Nat) (l0_0 : List Int) (s : CS) (a1 : Int) (w : World) (hs0_0 : Kd.V (Kd.int .i64) 3 w w.heap.size (fun k_ => P0_0_ k_) (.slice A0_0 l0_0.length c0_0) l0_0) (hsn : saneG l0_0 s = true) (hnl : 0 < l0_0.length) (hen : endsS s a1 = false) (h32 : l0_0.length = 32) :
    Calls Try.prog 33 #[.agg #[.slice A0_0 l0_0.length c0_0, .bool s.on, .int .i64 s.kind, .bool s.pict, .bool s.odd], .int .i64 a1] w fun e w' => ∃ v0_ v5_ : Value, e = .returned (.tuple #[.agg #[v0_, .bool (nextS s a1).on, .int .i64 (nextS s a1).kind, .bool (nextS s a1).pict, .bool (nextS s a1).odd], v5_]) ∧ Kd.V (Kd.int .i64) 3 w' w.heap.size (fun k_ => (P0_0_ k_ ∨ w.heap.size ≤ k_)) v0_ [a1] ∧ Kd.V (Kd.int .i64) 3 w' w.heap.size (fun k_ => (P0_0_ k_ ∨ w.heap.size ≤ k_)) v5_ l0_0 ∧ Below w.heap.size w w' := by
  obtain ⟨_, hc, hF⟩ := Kd.V_at hs0_0
  have HC := Aside0.mk hc
  have HF := Aside0.mk hF
  have HS := Aside0.mk (rsegSane_is l0_0 s)
  rw [hsn] at HS
  obtain ⟨on, kd, p, o⟩ := s
  obtain ⟨nx, hnx⟩ : ∃ q : CS, nextS ⟨on, kd, p, o⟩ a1 = q := ⟨_, rfl⟩
  obtain ⟨n1, n2, n3, n4⟩ := nx
  have HN := Aside0.mk (rNext_is ⟨on, kd, p, o⟩ a1)
  rw [hnx] at HN ⊢
  have HLn := Aside0.mk (show l0_0.length ≤ 32 by unfold saneG at hsn; simp at hsn; exact hsn.1)
  have HU := Aside0.mk (rEnds_is 100 ⟨on, kd, p, o⟩ a1 (by decide))
  rw [hen] at HU
  have e0 : decide (0 < l0_0.length) = true := decide_eq_true (by omega)
  have e32 : ((l0_0.length : Int) == 32) = true := beq_iff_eq.2 (by omega)
  clear hs0_0 hc hF hsn hnx hnl hen h32
  simp only [tup] at HN ⊢
  go_enter Try.func33, Try.ntmps33
  go_wp2_with fail
  refine (pentroughref12_Sane.calls A0_0 c0_0 l0_0 on kd p o true _ (Kd.F_now (Kd.F_alloc (Kd.F_alloc HF.out _) _)) HC.out HS.out).mono ?_
  rintro e w1 ⟨rfl, hB1⟩
  have HB1 := Aside0.mk ((((Below.refl w.heap.size w).alloc (Nat.le_refl _) _).alloc (by simp) _).trans (hB1.mono (by simp; omega)))
  have hz1 : w.heap.size + 1 < w1.heap.size := by have := hB1.size; simp at this; omega
  have K1 := blk_below (blk_alloc (blk_new w (.cells #[.slice A0_0 l0_0.length c0_0, .bool on, .int .i64 kd, .bool p, .bool o] 48)) (.cells #[.slice none 0 0, .bool false, .int .i64 0, .bool false, .bool false] 48)) hB1
  have J1 := blk_below (blk_new (w.alloc (.cells #[.slice A0_0 l0_0.length c0_0, .bool on, .int .i64 kd, .bool p, .bool o] 48)) (.cells #[.slice none 0 0, .bool false, .int .i64 0, .bool false, .bool false] 48)) hB1
  rw [show (w.alloc (.cells #[.slice A0_0 l0_0.length c0_0, .bool on, .int .i64 kd, .bool p, .bool o] 48)).heap.size = w.heap.size + 1 by simp] at J1
  clear hB1
  have KK := Aside0.mk K1
  have JJ := Aside0.mk J1
  have HBx := HB1
  have k0 := blk_cell K1 0
  have k1 := blk_cell K1 1
  have k2 := blk_cell K1 2
  have k3 := blk_cell K1 3
  have k4 := blk_cell K1 4
  clear K1 J1
  go_wp2_with fail
  refine (pentroughref11_Next.calls on kd p o a1 n1 n2 n3 n4 _ HN.out).mono ?_
  rintro e w2 ⟨rfl, hB2⟩
  have hz2 : w.heap.size + 1 < w2.heap.size := by have := hB2.size; (try simp at this); omega
  have HB2 := Aside0.mk (HBx.out.trans (hB2.mono (by (try simp); omega)))
  have K2 := Aside0.mk (blk_below KK.out hB2)
  have J2 := Aside0.mk (blk_below JJ.out hB2)
  clear hB2 KK JJ HBx
  clear k0 k1 k2 k3 k4
  have hy2 : w.heap.size < w2.heap.size := by omega
  have K3 := Aside0.mk (blk_alloc K2.out (.cells #[.bool n1, .int .i64 n2, .bool n3, .bool n4] 46))
  have J3 := Aside0.mk (blk_alloc J2.out (.cells #[.bool n1, .int .i64 n2, .bool n3, .bool n4] 46))
  have M3 := Aside0.mk (blk_new w2 (.cells #[.bool n1, .int .i64 n2, .bool n3, .bool n4] 46))
  have k0 := blk_cell K2.out 0
  have k1 := blk_cell K2.out 1
  have k2 := blk_cell K2.out 2
  have k3 := blk_cell K2.out 3
  have k4 := blk_cell K2.out 4
  go_wp2_with fail
  refine (pentroughref11_Ends.calls 100 on kd p o a1 false _ HU.out).mono ?_
  rintro e w4 ⟨rfl, hB4⟩
  have hz4 : w2.heap.size < w4.heap.size := by have := hB4.size; simp at this; omega
  have hz4' : w.heap.size + 1 < w4.heap.size := by omega
  have HB4 := Aside0.mk ((HB2.out.alloc (by omega) (.cells #[.bool n1, .int .i64 n2, .bool n3, .bool n4] 46)).trans (hB4.mono (by simp; omega)))
  have K4 := Aside0.mk (blk_below K3.out hB4)
  have J4 := Aside0.mk (blk_below J3.out hB4)
  have M4 := Aside0.mk (blk_below M3.out hB4)
  clear hB4 HB2 K2 J2 K3 J3 M3
  clear k0 k1 k2 k3 k4
  have k0 := blk_cell K4.out 0
  have k1 := blk_cell K4.out 1
  have k2 := blk_cell K4.out 2
  have k3 := blk_cell K4.out 3
  have k4 := blk_cell K4.out 4
  have m0 := blk_cell M4.out 0
  have m1 := blk_cell M4.out 1
  have m2 := blk_cell M4.out 2
  have m3 := blk_cell M4.out 3
  have y0 := blk_cell J4.out 0
  have y1 := blk_cell J4.out 1
  have y2 := blk_cell J4.out 2
  have y3 := blk_cell J4.out 3
  have y4 := blk_cell J4.out 4
  have h0 := blk_frozen J4.out 0
  have h1 := blk_frozen J4.out 1
  have h2 := blk_frozen J4.out 2
  have h3 := blk_frozen J4.out 3
  have h4 := blk_frozen J4.out 4
  have hw : w.heap.size < w4.heap.size := by omega
  have hw1 : w.heap.size + 1 < w4.heap.size := by omega
  have hw2 : ¬ w.heap.size = w2.heap.size := by omega
  have hw3 : ¬ w.heap.size + 1 = w2.heap.size := by omega
  go_wp2
  go_region
  all_goals
    go_wp2
    refine bodyPost_ret (v := .tuple #[.agg #[.slice (some ⟨w4.heap.size, 0, none⟩) 1 1, .bool n1, .int .i64 n2, .bool n3, .bool n4], .slice A0_0 l0_0.length c0_0]) (by simp [results, Try.results33, go_sem, y0, y1, y2, y3, y4, hz4, hw, hw1]) rfl ⟨.slice (some ⟨w4.heap.size, 0, none⟩) 1 1, .slice A0_0 l0_0.length c0_0, rfl, ?_, V_low HF.out HC.out ?_ (fun k hk => .inl hk), ?_⟩
    · refine Kd.V_mono (ok := fun k => w4.heap.size ≤ k) ?_ (fun k hk => .inr (by omega))
      exact one_lit' _ w4.heap.size a1 (by simp)
    · refine below_drew ?_
      refine Below.alloc ?_ (by simp; omega) _
      iterate 5 (refine Below.setCell ?_ (by simp <;> omega) _)
      exact HB4.out
    · refine below_drew ?_
      refine Below.alloc ?_ (by simp; omega) _
      iterate 5 (refine Below.setCell ?_ (by simp <;> omega) _)
      exact HB4.out
theorem pentroughref12_Feed.calls (P0_0_ : Nat → Prop) (A0_0 : Option Addr) (c0_0 : Nat) (l0_0 : List Int) (a0_1 : Bool) (a0_2 : Int) (a0_3 : Bool) (a0_4 : Bool) (a1 : Int) (r1 : List Int) (r2 : Bool) (r3 : Int) (r4 : Bool) (r5 : Bool) (r6 : List Int) (w : World) (hs0_0 : Kd.V (Kd.int .i64) 3 w w.heap.size (fun k_ => P0_0_ k_) (.slice A0_0 l0_0.length c0_0) l0_0) (h : pentroughref12_Feed.f l0_0 a0_1 a0_2 a0_3 a0_4 a1 = some (r1, r2, r3, r4, r5, r6)) :
    Calls Try.prog 33 #[.agg #[.slice A0_0 l0_0.length c0_0, .bool a0_1, .int .i64 a0_2, .bool a0_3, .bool a0_4], .int .i64 a1] w fun e w' => ∃ v0_ v5_ : Value, e = .returned (.tuple #[.agg #[v0_, .bool r2, .int .i64 r3, .bool r4, .bool r5], v5_]) ∧ Kd.V (Kd.int .i64) 3 w' w.heap.size (fun k_ => (P0_0_ k_ ∨ w.heap.size ≤ k_)) v0_ r1 ∧ Kd.V (Kd.int .i64) 3 w' w.heap.size (fun k_ => (P0_0_ k_ ∨ w.heap.size ≤ k_)) v5_ r6 ∧ Below w.heap.size w w' := by
  have h2 := Option.some.inj h
  simp only [tup6, Prod.mk.injEq] at h2
  obtain ⟨rfl, rfl, rfl, rfl, rfl, rfl⟩ := h2
  unfold feedP
  cases hs : saneG l0_0 ⟨a0_1, a0_2, a0_3, a0_4⟩ with
  | false => exact rfeed_bad P0_0_ A0_0 c0_0 l0_0 ⟨a0_1, a0_2, a0_3, a0_4⟩ a1 w hs0_0 hs
  | true =>
    by_cases h0 : l0_0.length = 0
    · have hf : fullP l0_0.length ⟨a0_1, a0_2, a0_3, a0_4⟩ a1 = false := by unfold fullP; simp [h0]
      rw [hf]
      exact rfeed_nil P0_0_ A0_0 c0_0 l0_0 ⟨a0_1, a0_2, a0_3, a0_4⟩ a1 w hs0_0 hs h0
    · have hp : 0 < l0_0.length := by omega
      cases he : endsS ⟨a0_1, a0_2, a0_3, a0_4⟩ a1 with
      | true =>
        have hf : fullP l0_0.length ⟨a0_1, a0_2, a0_3, a0_4⟩ a1 = true := by unfold fullP; simp [hp, he]
        rw [hf]
        exact rfeed_ends P0_0_ A0_0 c0_0 l0_0 ⟨a0_1, a0_2, a0_3, a0_4⟩ a1 w hs0_0 hs hp he
      | false =>
        by_cases h3 : l0_0.length = 32
        · have hf : fullP l0_0.length ⟨a0_1, a0_2, a0_3, a0_4⟩ a1 = true := by unfold fullP; simp [h3]
          rw [hf]
          exact rfeed_cap P0_0_ A0_0 c0_0 l0_0 ⟨a0_1, a0_2, a0_3, a0_4⟩ a1 w hs0_0 hs hp he h3
        · have hf : fullP l0_0.length ⟨a0_1, a0_2, a0_3, a0_4⟩ a1 = false := by unfold fullP; simp [h3, he]
          rw [hf]
          exact rfeed_on P0_0_ A0_0 c0_0 l0_0 ⟨a0_1, a0_2, a0_3, a0_4⟩ a1 w hs0_0 hs hp he h3
end Go.Proofs.Ytcabijajjceghaa.G
