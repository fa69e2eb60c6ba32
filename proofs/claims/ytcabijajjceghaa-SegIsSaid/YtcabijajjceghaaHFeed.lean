/- The machine's side of seg.Feed, by hand, over what the plain one says; what it hands back may share memory with what came in. No condition. -/
import Derived.RegionTactic
import Derived.BigRegion
import Derived.Test.YtcabijajjceghaaSeg
import Derived.Test.YtcabijajjceghaaG0
import Derived.Shelf.Slices.Clone
namespace Go.Proofs.Ytcabijajjceghaa.G
open Go.Shelf Go.RowKit Go.Proofs.YtcabijajjceghaaW.PrintWords Go.Proofs.YtcabijajjceghaaW.PrintLast Go.Proofs.YtcabijajjceghaaW.PrintMore
set_option linter.unusedVariables false
set_option linter.unusedSimpArgs false

def cloneRen : Go.Shelf.Ren := ⟨fun | 15 => 54 | n => n, fun | 22 => 22 | 3 => 3 | 4 => 4 | n => n, fun | n => n⟩
theorem laysClone : Go.Proofs.Lays2.n15 Try.prog cloneRen := {
  mixed := by kernel_rfl
  f15 := Try.func54.trans (congrArg some (by kernel_rfl))
  t3 := Try.underlying3
  a3 := Try.isAgg3
  z3 := Try.sizeOf3
  v3 := Try.zeroValue3
  t4 := Try.underlying4
  a4 := Try.isAgg4
  z4 := Try.sizeOf4
  v4 := Try.zeroValue4
  t22 := Try.underlying22
  a22 := Try.isAgg22
  z22 := Try.sizeOf22
  v22 := Try.zeroValue22
  i3 := by kernel_rfl }

def slices_Clone_int_int.f (l0 : List Int) : Option (List Int) := if l0.length ≤ 1000000 then some l0 else none
theorem slices_Clone_int_int.calls (A0 : Option Addr) (c0 : Nat) (l0 : List Int) (r : List Int) (w : World) (hr0 : Kd.C (Kd.int .i64) w A0 l0.length l0) (hc0 : l0.length ≤ c0) (h : slices_Clone_int_int.f l0 = some r) :
    Calls Try.prog 54 #[.slice A0 l0.length c0] w fun e w' => ∃ v0_ : Value, e = .returned (v0_) ∧ Kd.R (Kd.int .i64) 3 w' w.heap.size (fun _ => True) v0_ r ∧ Below w.heap.size w w' := by
  unfold slices_Clone_int_int.f at h
  by_cases hl : l0.length ≤ 1000000
  rotate_left
  · rw [if_neg hl] at h; cases h
  rw [if_pos hl] at h
  obtain rfl := Option.some.inj h
  by_cases hz : l0 = []
  · subst hz
    cases A0 with
    | none =>
      refine (Any.slices_Clone_int_nil laysClone _ _ w).mono ?_
      rintro e w' ⟨rfl, rfl⟩
      exact ⟨_, rfl, Kd.R_nil _ _ _ _ _, Below.refl _ _⟩
    | some ad =>
      refine (Any.slices_Clone_int_zero laysClone ad c0 w).mono ?_
      rintro e w' ⟨v, rfl, ho, _, hb⟩
      exact ⟨_, rfl, Kd.R_of_own (enc := Value.int .i64) ho (fun _ _ => trivial), hb⟩
  · have hp : 0 < l0.length := by cases l0 with | nil => exact absurd rfl hz | cons x t => simp
    obtain ⟨ad, rfl, _⟩ := hr0.2.2 hp
    have hcell : ∀ j, j < l0.length → w.cell? (ad.add j) = some (.int .i64 (l0.getD j 0)) := by
      intro j hj
      obtain ⟨ad', e, hx⟩ := Kd.at_int hr0 (j : Int) (by omega) (by omega)
      cases e
      rw [Int.toNat_natCast] at hx
      rw [hx]
      simp [rd]
    have hs : ad.spot = none := by have := World.cell?_spot (hcell 0 hp); simpa [Addr.add] using this
    obtain ⟨b, off, sp⟩ := ad
    simp at hs
    subst hs
    refine (Any.slices_Clone_int laysClone b off l0.length c0 l0 w (Nat.le_refl _) (by omega) (fun j hj => ?_)).mono ?_
    · have := hcell j hj
      by_cases e : j = 0
      · subst e; simpa [Addr.add] using this
      · simpa [Addr.add, e] using this
    rintro e w' ⟨v, rfl, ho, _, hb⟩
    refine ⟨_, rfl, Kd.R_of_own (enc := Value.int .i64) ?_ (fun _ _ => trivial), hb⟩
    rw [List.take_length] at ho
    exact ho
end Go.Proofs.Ytcabijajjceghaa.G

namespace Go.Proofs.Ytcabijajjceghaa.G
open Go.RowKit Go.Proofs.YtcabijajjceghaaW.PrintWords Go.Proofs.YtcabijajjceghaaW.PrintLast Go.Proofs.YtcabijajjceghaaW.PrintMore
set_option linter.unusedVariables false
set_option linter.unusedSimpArgs false

def tup6 (q : List Int × CS × List Int) : List Int × Bool × Int × Bool × Bool × List Int := (q.1, q.2.1.on, q.2.1.kind, q.2.1.pict, q.2.1.odd, q.2.2)
def seg_Feed.f (l0_0 : List Int) (a0_1 : Bool) (a0_2 : Int) (a0_3 : Bool) (a0_4 : Bool) (a1 : Int) : Option (List Int × Bool × Int × Bool × Bool × List Int) := some (tup6 (feedP l0_0 ⟨a0_1, a0_2, a0_3, a0_4⟩ a1))
/-- A literal of one number. -/
theorem one_lit (W : World) (x : Int) (base : Nat) (h : base ≤ W.heap.size) : Kd.R (Kd.int .i64) 3 (W.alloc (.cells #[.int .i64 x] 3)) base (fun k => base ≤ k) (.slice (some ⟨W.heap.size, 0, none⟩) [x].length 1) [x] :=
  Kd.R_of_own (enc := Value.int .i64) (World.ownsRow_lit (base := base) (e := 3) (size := 1) W #[.int .i64 x] 1 h (by simp [maxLen]) (by simp)) (fun k hk => by simp [Value.ownBlock] at hk; omega)
theorem one_lit' {b : Nat} (X : World) (g : Nat) (x : Int) (h : X.heap.size = g) : Kd.V (Kd.int .i64) 3 (X.alloc (.cells #[.int .i64 x] 3)).drew b (fun k => g ≤ k) (.slice (some ⟨g, 0, none⟩) 1 1) [x] := by
  subst h
  exact Kd.V_drew (Kd.R_V (one_lit X x _ (Nat.le_refl _)))
theorem V_low {W : World} {A : Option Addr} {c : Nat} {b : Nat} {P P' : Nat → Prop} {l : List Int} {W' : World} (h : Kd.F (Kd.int .i64) W P A l.length l) (hc : l.length ≤ c) (hm : Below W.heap.size W W') (hp : ∀ k, P k → P' k) : Kd.V (Kd.int .i64) 3 W' b P' (.slice A l.length c) l := Kd.V_mk hc (Kd.F_mono (Kd.F_below h hm) hp)

set_option maxHeartbeats 4000000 in
set_option maxRecDepth 100000 in
theorem feed_bad (P0_0_ : Nat → Prop) (A0_0 : Option Addr) (c0_0 : Nat) (l0_0 : List Int) (s : CS) (a1 : Int) (w : World) (hs0_0 : Kd.V (Kd.int .i64) 3 w w.heap.size (fun k_ => P0_0_ k_) (.slice A0_0 l0_0.length c0_0) l0_0) (hsn : saneG l0_0 s = false) :
    Calls Try.prog 30 #[.agg #[.slice A0_0 l0_0.length c0_0, .bool s.on, .int .i64 s.kind, .bool s.pict, .bool s.odd], .int .i64 a1] w fun e w' => ∃ v0_ v5_ : Value, e = .returned (.tuple #[.agg #[v0_, .bool (nextS c0 a1).on, .int .i64 (nextS c0 a1).kind, .bool (nextS c0 a1).pict, .bool (nextS c0 a1).odd], v5_]) ∧ Kd.V (Kd.int .i64) 3 w' w.heap.size (fun k_ => (P0_0_ k_ ∨ w.heap.size ≤ k_)) v0_ [a1] ∧ Kd.V (Kd.int .i64) 3 w' w.heap.size (fun k_ => (P0_0_ k_ ∨ w.heap.size ≤ k_)) v5_ ([] : List Int) ∧ Below w.heap.size w w' := by
  obtain ⟨_, hc, hF⟩ := Kd.V_at hs0_0
  have HC := Aside0.mk hc
  have HF := Aside0.mk hF
  have HS := Aside0.mk (segSane_is 30 l0_0 s (by decide))
  rw [hsn] at HS
  obtain ⟨on, kd, p, o⟩ := s
  obtain ⟨nx, hnx⟩ : ∃ q : CS, nextS c0 a1 = q := ⟨_, rfl⟩
  obtain ⟨n1, n2, n3, n4⟩ := nx
  have HN := Aside0.mk (next_is c0 a1)
  rw [hnx] at HN ⊢
  have HU := Aside0.mk (show seg_State_full.f 30 [] false 0 false false a1 = some false from full_is 30 [] c0 a1 (by decide))
  simp only [c0] at HN
  clear hs0_0 hc hF hsn hnx
  simp only [tup] at HN ⊢
  go_enter Try.func30, Try.ntmps30
  go_wp2_with fail
  refine (seg_Sane.calls 30 A0_0 c0_0 l0_0 on kd p o false _ (Kd.F_now (Kd.F_alloc (Kd.F_alloc HF.out _) _)) HC.out HS.out).mono ?_
  rintro e w1 ⟨rfl, hB1⟩
  have HB1 := Aside0.mk ((((Below.refl w.heap.size w).alloc (Nat.le_refl _) _).alloc (by simp) _).trans (hB1.mono (by simp; omega)))
  have hz1 : w.heap.size + 1 < w1.heap.size := by have := hB1.size; simp at this; omega
  have K1 := blk_below (blk_alloc (blk_new w (.cells #[.slice A0_0 l0_0.length c0_0, .bool on, .int .i64 kd, .bool p, .bool o] 51)) (.cells #[.slice none 0 0, .bool false, .int .i64 0, .bool false, .bool false] 51)) hB1
  have J1 := blk_below (blk_new (w.alloc (.cells #[.slice A0_0 l0_0.length c0_0, .bool on, .int .i64 kd, .bool p, .bool o] 51)) (.cells #[.slice none 0 0, .bool false, .int .i64 0, .bool false, .bool false] 51)) hB1
  rw [show (w.alloc (.cells #[.slice A0_0 l0_0.length c0_0, .bool on, .int .i64 kd, .bool p, .bool o] 51)).heap.size = w.heap.size + 1 by simp] at J1
  clear hB1
  have KK := Aside0.mk (blk_put (cs' := #[.slice none 0 0, .bool false, .int .i64 0, .bool false, .bool false]) (blk_put (cs' := #[.slice none 0 0, .bool false, .int .i64 0, .bool false, .bool o]) (blk_put (cs' := #[.slice none 0 0, .bool false, .int .i64 0, .bool p, .bool o]) (blk_put (cs' := #[.slice none 0 0, .bool false, .int .i64 kd, .bool p, .bool o]) (blk_put (cs' := #[.slice none 0 0, .bool on, .int .i64 kd, .bool p, .bool o]) K1 0 (.slice none 0 0) rfl) 1 (.bool false) rfl) 2 (.int .i64 0) rfl) 3 (.bool false) rfl) 4 (.bool false) rfl)
  have JJ := Aside0.mk (blk_far (blk_far (blk_far (blk_far (blk_far J1 (p := ⟨w.heap.size, 0, none⟩) (by simp) (.slice none 0 0)) (p := ⟨w.heap.size, 1, none⟩) (by simp) (.bool false)) (p := ⟨w.heap.size, 2, none⟩) (by simp) (.int .i64 0)) (p := ⟨w.heap.size, 3, none⟩) (by simp) (.bool false)) (p := ⟨w.heap.size, 4, none⟩) (by simp) (.bool false))
  have HBx := Aside0.mk (Below.setCell (Below.setCell (Below.setCell (Below.setCell (Below.setCell HB1.out (p := ⟨w.heap.size, 0, none⟩) (by simp) (.slice none 0 0)) (p := ⟨w.heap.size, 1, none⟩) (by simp) (.bool false)) (p := ⟨w.heap.size, 2, none⟩) (by simp) (.int .i64 0)) (p := ⟨w.heap.size, 3, none⟩) (by simp) (.bool false)) (p := ⟨w.heap.size, 4, none⟩) (by simp) (.bool false))
  have f0 := blk_frozen K1 0
  have f1 := blk_frozen K1 1
  have f2 := blk_frozen K1 2
  have f3 := blk_frozen K1 3
  have f4 := blk_frozen K1 4
  have k0 := blk_cell K1 0
  have k1 := blk_cell K1 1
  have k2 := blk_cell K1 2
  have k3 := blk_cell K1 3
  have k4 := blk_cell K1 4
  clear K1 J1
  go_wp2_with fail
  refine (clus_Next.calls false 0 false false a1 n1 n2 n3 n4 _ HN.out).mono ?_
  rintro e w2 ⟨rfl, hB2⟩
  have hz2 : w.heap.size + 1 < w2.heap.size := by have := hB2.size; (try simp at this); omega
  have HB2 := Aside0.mk (HBx.out.trans (hB2.mono (by (try simp); omega)))
  have K2 := Aside0.mk (blk_below KK.out hB2)
  have J2 := Aside0.mk (blk_below JJ.out hB2)
  clear hB2 KK JJ HBx
  clear k0 k1 k2 k3 k4 f0 f1 f2 f3 f4
  have hy2 : w.heap.size < w2.heap.size := by omega
  have K3 := Aside0.mk (blk_alloc K2.out (.cells #[.slice none 0 0, .bool n1, .int .i64 n2, .bool n3, .bool n4] 51))
  have J3 := Aside0.mk (blk_alloc J2.out (.cells #[.slice none 0 0, .bool n1, .int .i64 n2, .bool n3, .bool n4] 51))
  have M3 := Aside0.mk (blk_new w2 (.cells #[.slice none 0 0, .bool n1, .int .i64 n2, .bool n3, .bool n4] 51))
  have k0 := blk_cell K2.out 0
  have k1 := blk_cell K2.out 1
  have k2 := blk_cell K2.out 2
  have k3 := blk_cell K2.out 3
  have k4 := blk_cell K2.out 4
  go_wp2_with fail
  refine (seg_State_full.calls 30 none 0 [] false 0 false false a1 false _ (Kd.C_nil _ _) (Nat.le_refl _) HU.out).mono ?_
  rintro e w4 ⟨rfl, hB4⟩
  have hz4 : w2.heap.size < w4.heap.size := by have := hB4.size; simp at this; omega
  have HB4 := Aside0.mk ((HB2.out.alloc (by omega) (.cells #[.slice none 0 0, .bool n1, .int .i64 n2, .bool n3, .bool n4] 51)).trans (hB4.mono (by simp; omega)))
  have K4 := Aside0.mk (blk_below K3.out hB4)
  have J4 := Aside0.mk (blk_below J3.out hB4)
  have M4 := Aside0.mk (blk_below M3.out hB4)
  clear hB4 HB2 K2 J2 K3 J3 M3
  clear k0 k1 k2 k3 k4
  have k0 := blk_cell K4.out 0
  have k1 := blk_cell K4.out 1
  have k2 := blk_cell K4.out 2
  have k3 := blk_cell K4.out 3
  have k4 := blk_cell K4.out 4
  go_wp2_with fail
  refine (slices_Clone_int_int.calls none 0 [] [] w4 (Kd.C_nil _ _) (Nat.le_refl _) rfl).mono ?_
  rintro e w5 ⟨v5, rfl, hR5, hB5⟩
  have HR5 := Aside0.mk (Kd.R_reok (ok := fun k => w4.heap.size ≤ k) rfl hR5 (fun k hk => own_base (Kd.own_of_R hR5) k hk))
  have H5 := Aside0.mk hB5
  clear hR5 hB5
  clear k0 k1 k2 k3 k4
  go_wp2_with (at_builtin; refine Kd.R_append (Kd.int .i64) (w0 := w4) w4.heap.size rfl (.tmp 27) (.tmp 29) 22 3 (.int .i64 0) 8 rfl Try.underlying22 info3 rfl (by decide) (by decide) v5 [] a1 [.int .i64 a1] (fun k => w4.heap.size ≤ k) (fun _ => False) rfl rfl rfl (fun _ hk => hk.elim) (fun k hk => Nat.le_trans H5.out.size hk) HR5.out H5.out H5.out.size (by decide) ?_; intro v6 w6 ho hb hg hat; have HO6 := Aside0.mk ho; obtain ⟨A6, d6, e6⟩ := Kd.R_slice ho; have M6 := Aside0.mk (blk_below M4.out hb); have J6 := Aside0.mk (blk_below J4.out hb); have hz6 : w4.heap.size ≤ w6.heap.size := hb.size; have HB6 := Aside0.mk (HB4.out.trans (hb.mono (by omega))); clear hg hat hb ho; (try rw [List.nil_append] at e6); simp only [List.length_append, List.length_singleton, List.length_nil, Nat.zero_add] at e6; subst e6; have m0 := blk_cell M6.out 0; have m1 := blk_cell M6.out 1; have m2 := blk_cell M6.out 2; have m3 := blk_cell M6.out 3; have m4 := blk_cell M6.out 4; have g0 := blk_frozen M6.out 0; have y0 := blk_cell J6.out 0; have y1 := blk_cell J6.out 1; have y2 := blk_cell J6.out 2; have y3 := blk_cell J6.out 3; have y4 := blk_cell J6.out 4; have h0 := blk_frozen J6.out 0; have h1 := blk_frozen J6.out 1; have h2 := blk_frozen J6.out 2; have h3 := blk_frozen J6.out 3; have h4 := blk_frozen J6.out 4)
  refine bodyPost_ret (v := .tuple #[.agg #[.slice A6 (1) d6, .bool n1, .int .i64 n2, .bool n3, .bool n4], .slice none 0 0]) (by simp [results, Try.results30, go_sem, y0, y1, y2, y3, y4, hz1, hz2, hz4, hz6]) rfl ⟨(.slice A6 (1) d6), .slice none 0 0, rfl, ?_, Kd.V_nil _ _ _ _ _, ?_⟩
  · refine Kd.V_mono (ok := fun k => w4.heap.size ≤ k) ?_ (fun k hk => .inr (by omega))
    iterate 6 (refine Kd.V_far ?_ (fun k hk => by simp <;> omega) _)
    exact Kd.R_V HO6.out
  · iterate 6 (refine Below.setCell ?_ (by simp <;> omega) _)
    exact HB6.out
set_option maxHeartbeats 4000000 in
set_option maxRecDepth 100000 in
theorem feed_full (P0_0_ : Nat → Prop) (A0_0 : Option Addr) (c0_0 : Nat) (l0_0 : List Int) (s : CS) (a1 : Int) (w : World) (hs0_0 : Kd.V (Kd.int .i64) 3 w w.heap.size (fun k_ => P0_0_ k_) (.slice A0_0 l0_0.length c0_0) l0_0) (hsn : saneG l0_0 s = true) (hfu : fullP l0_0.length s a1 = true) :
    Calls Try.prog 30 #[.agg #[.slice A0_0 l0_0.length c0_0, .bool s.on, .int .i64 s.kind, .bool s.pict, .bool s.odd], .int .i64 a1] w fun e w' => ∃ v0_ v5_ : Value, e = .returned (.tuple #[.agg #[v0_, .bool (nextS s a1).on, .int .i64 (nextS s a1).kind, .bool (nextS s a1).pict, .bool (nextS s a1).odd], v5_]) ∧ Kd.V (Kd.int .i64) 3 w' w.heap.size (fun k_ => (P0_0_ k_ ∨ w.heap.size ≤ k_)) v0_ [a1] ∧ Kd.V (Kd.int .i64) 3 w' w.heap.size (fun k_ => (P0_0_ k_ ∨ w.heap.size ≤ k_)) v5_ l0_0 ∧ Below w.heap.size w w' := by
  obtain ⟨_, hc, hF⟩ := Kd.V_at hs0_0
  have HC := Aside0.mk hc
  have HF := Aside0.mk hF
  have HS := Aside0.mk (segSane_is 30 l0_0 s (by decide))
  rw [hsn] at HS
  obtain ⟨on, kd, p, o⟩ := s
  obtain ⟨nx, hnx⟩ : ∃ q : CS, nextS ⟨on, kd, p, o⟩ a1 = q := ⟨_, rfl⟩
  obtain ⟨n1, n2, n3, n4⟩ := nx
  have HN := Aside0.mk (next_is ⟨on, kd, p, o⟩ a1)
  rw [hnx] at HN ⊢
  have HU := Aside0.mk (full_is 30 l0_0 ⟨on, kd, p, o⟩ a1 (by decide))
  rw [hfu] at HU
  clear hs0_0 hc hF hsn hnx hfu
  simp only [tup] at HN ⊢
  go_enter Try.func30, Try.ntmps30
  go_wp2_with fail
  refine (seg_Sane.calls 30 A0_0 c0_0 l0_0 on kd p o true _ (Kd.F_now (Kd.F_alloc (Kd.F_alloc HF.out _) _)) HC.out HS.out).mono ?_
  rintro e w1 ⟨rfl, hB1⟩
  have HB1 := Aside0.mk ((((Below.refl w.heap.size w).alloc (Nat.le_refl _) _).alloc (by simp) _).trans (hB1.mono (by simp; omega)))
  have hz1 : w.heap.size + 1 < w1.heap.size := by have := hB1.size; simp at this; omega
  have K1 := blk_below (blk_alloc (blk_new w (.cells #[.slice A0_0 l0_0.length c0_0, .bool on, .int .i64 kd, .bool p, .bool o] 51)) (.cells #[.slice none 0 0, .bool false, .int .i64 0, .bool false, .bool false] 51)) hB1
  have J1 := blk_below (blk_new (w.alloc (.cells #[.slice A0_0 l0_0.length c0_0, .bool on, .int .i64 kd, .bool p, .bool o] 51)) (.cells #[.slice none 0 0, .bool false, .int .i64 0, .bool false, .bool false] 51)) hB1
  rw [show (w.alloc (.cells #[.slice A0_0 l0_0.length c0_0, .bool on, .int .i64 kd, .bool p, .bool o] 51)).heap.size = w.heap.size + 1 by simp] at J1
  clear hB1
  have KK := Aside0.mk K1
  have JJ := Aside0.mk J1
  have HBx := HB1
  have k0 := blk_cell K1 0
  have k1 := blk_cell K1 1
  have k2 := blk_cell K1 2
  have k3 := blk_cell K1 3
  have k4 := blk_cell K1 4
  clear K1 J1
  go_wp2_with fail
  refine (clus_Next.calls on kd p o a1 n1 n2 n3 n4 _ HN.out).mono ?_
  rintro e w2 ⟨rfl, hB2⟩
  have hz2 : w.heap.size + 1 < w2.heap.size := by have := hB2.size; (try simp at this); omega
  have HB2 := Aside0.mk (HBx.out.trans (hB2.mono (by (try simp); omega)))
  have K2 := Aside0.mk (blk_below KK.out hB2)
  have J2 := Aside0.mk (blk_below JJ.out hB2)
  clear hB2 KK JJ HBx
  clear k0 k1 k2 k3 k4
  have hy2 : w.heap.size < w2.heap.size := by omega
  have K3 := Aside0.mk (blk_alloc K2.out (.cells #[.slice none 0 0, .bool n1, .int .i64 n2, .bool n3, .bool n4] 51))
  have J3 := Aside0.mk (blk_alloc J2.out (.cells #[.slice none 0 0, .bool n1, .int .i64 n2, .bool n3, .bool n4] 51))
  have M3 := Aside0.mk (blk_new w2 (.cells #[.slice none 0 0, .bool n1, .int .i64 n2, .bool n3, .bool n4] 51))
  have k0 := blk_cell K2.out 0
  have k1 := blk_cell K2.out 1
  have k2 := blk_cell K2.out 2
  have k3 := blk_cell K2.out 3
  have k4 := blk_cell K2.out 4
  go_wp2_with fail
  refine (seg_State_full.calls 30 A0_0 c0_0 l0_0 on kd p o a1 true _ (Kd.F_now (Kd.F_below HF.out (HB2.out.alloc (by omega) _))) HC.out HU.out).mono ?_
  rintro e w4 ⟨rfl, hB4⟩
  have hz4 : w2.heap.size < w4.heap.size := by have := hB4.size; simp at this; omega
  have HB4 := Aside0.mk ((HB2.out.alloc (by omega) (.cells #[.slice none 0 0, .bool n1, .int .i64 n2, .bool n3, .bool n4] 51)).trans (hB4.mono (by simp; omega)))
  have K4 := Aside0.mk (blk_below K3.out hB4)
  have J4 := Aside0.mk (blk_below J3.out hB4)
  have M4 := Aside0.mk (blk_below M3.out hB4)
  clear hB4 HB2 K2 J2 K3 J3 M3
  clear k0 k1 k2 k3 k4
  have k0 := blk_cell K4.out 0
  have k1 := blk_cell K4.out 1
  have k2 := blk_cell K4.out 2
  have k3 := blk_cell K4.out 3
  have k4 := blk_cell K4.out 4
  have m0 := blk_cell M4.out 0
  have m1 := blk_cell M4.out 1
  have m2 := blk_cell M4.out 2
  have m3 := blk_cell M4.out 3
  have m4 := blk_cell M4.out 4
  have g0 := blk_frozen M4.out 0
  have g1 := blk_frozen M4.out 1
  have g2 := blk_frozen M4.out 2
  have g3 := blk_frozen M4.out 3
  have g4 := blk_frozen M4.out 4
  have y0 := blk_cell J4.out 0
  have y1 := blk_cell J4.out 1
  have y2 := blk_cell J4.out 2
  have y3 := blk_cell J4.out 3
  have y4 := blk_cell J4.out 4
  have h0 := blk_frozen J4.out 0
  have h1 := blk_frozen J4.out 1
  have h2 := blk_frozen J4.out 2
  have h3 := blk_frozen J4.out 3
  have h4 := blk_frozen J4.out 4
  have hw : w.heap.size < w4.heap.size := by omega
  have hw1 : w.heap.size + 1 < w4.heap.size := by omega
  have hw2 : ¬ w.heap.size = w2.heap.size := by omega
  have hw3 : ¬ w.heap.size + 1 = w2.heap.size := by omega
  go_wp2
  go_region
  all_goals
    go_wp2
    refine bodyPost_ret (v := .tuple #[.agg #[.slice (some ⟨w4.heap.size, 0, none⟩) 1 1, .bool n1, .int .i64 n2, .bool n3, .bool n4], .slice A0_0 l0_0.length c0_0]) (by simp [results, Try.results30, go_sem, y0, y1, y2, y3, y4, hz1, hz2, hz4, hw, hw1]) rfl ⟨.slice (some ⟨w4.heap.size, 0, none⟩) 1 1, .slice A0_0 l0_0.length c0_0, rfl, ?_, V_low HF.out HC.out ?_ (fun k hk => .inl hk), ?_⟩
    · refine Kd.V_mono (ok := fun k => w4.heap.size ≤ k) ?_ (fun k hk => .inr (by omega))
      exact one_lit' _ w4.heap.size a1 (by simp)
    · refine below_drew ?_
      refine Below.alloc ?_ (by simp; omega) _
      iterate 6 (refine Below.setCell ?_ (by simp <;> omega) _)
      exact HB4.out
    · refine below_drew ?_
      refine Below.alloc ?_ (by simp; omega) _
      iterate 6 (refine Below.setCell ?_ (by simp <;> omega) _)
      exact HB4.out
set_option maxHeartbeats 4000000 in
set_option maxRecDepth 100000 in
theorem feed_on (P0_0_ : Nat → Prop) (A0_0 : Option Addr) (c0_0 : Nat) (l0_0 : List Int) (s : CS) (a1 : Int) (w : World) (hs0_0 : Kd.V (Kd.int .i64) 3 w w.heap.size (fun k_ => P0_0_ k_) (.slice A0_0 l0_0.length c0_0) l0_0) (hsn : saneG l0_0 s = true) (hfu : fullP l0_0.length s a1 = false) :
    Calls Try.prog 30 #[.agg #[.slice A0_0 l0_0.length c0_0, .bool s.on, .int .i64 s.kind, .bool s.pict, .bool s.odd], .int .i64 a1] w fun e w' => ∃ v0_ v5_ : Value, e = .returned (.tuple #[.agg #[v0_, .bool (nextS s a1).on, .int .i64 (nextS s a1).kind, .bool (nextS s a1).pict, .bool (nextS s a1).odd], v5_]) ∧ Kd.V (Kd.int .i64) 3 w' w.heap.size (fun k_ => (P0_0_ k_ ∨ w.heap.size ≤ k_)) v0_ (l0_0 ++ [a1]) ∧ Kd.V (Kd.int .i64) 3 w' w.heap.size (fun k_ => (P0_0_ k_ ∨ w.heap.size ≤ k_)) v5_ ([] : List Int) ∧ Below w.heap.size w w' := by
  obtain ⟨_, hc, hF⟩ := Kd.V_at hs0_0
  have HC := Aside0.mk hc
  have HF := Aside0.mk hF
  have HS := Aside0.mk (segSane_is 30 l0_0 s (by decide))
  rw [hsn] at HS
  obtain ⟨on, kd, p, o⟩ := s
  obtain ⟨nx, hnx⟩ : ∃ q : CS, nextS ⟨on, kd, p, o⟩ a1 = q := ⟨_, rfl⟩
  obtain ⟨n1, n2, n3, n4⟩ := nx
  have HN := Aside0.mk (next_is ⟨on, kd, p, o⟩ a1)
  rw [hnx] at HN ⊢
  have HU := Aside0.mk (full_is 30 l0_0 ⟨on, kd, p, o⟩ a1 (by decide))
  rw [hfu] at HU
  have HLn := Aside0.mk (show l0_0.length ≤ 32 by unfold saneG at hsn; simp at hsn; exact hsn.1)
  clear hs0_0 hc hF hsn hnx hfu
  simp only [tup] at HN ⊢
  go_enter Try.func30, Try.ntmps30
  go_wp2_with fail
  refine (seg_Sane.calls 30 A0_0 c0_0 l0_0 on kd p o true _ (Kd.F_now (Kd.F_alloc (Kd.F_alloc HF.out _) _)) HC.out HS.out).mono ?_
  rintro e w1 ⟨rfl, hB1⟩
  have HB1 := Aside0.mk ((((Below.refl w.heap.size w).alloc (Nat.le_refl _) _).alloc (by simp) _).trans (hB1.mono (by simp; omega)))
  have hz1 : w.heap.size + 1 < w1.heap.size := by have := hB1.size; simp at this; omega
  have K1 := blk_below (blk_alloc (blk_new w (.cells #[.slice A0_0 l0_0.length c0_0, .bool on, .int .i64 kd, .bool p, .bool o] 51)) (.cells #[.slice none 0 0, .bool false, .int .i64 0, .bool false, .bool false] 51)) hB1
  have J1 := blk_below (blk_new (w.alloc (.cells #[.slice A0_0 l0_0.length c0_0, .bool on, .int .i64 kd, .bool p, .bool o] 51)) (.cells #[.slice none 0 0, .bool false, .int .i64 0, .bool false, .bool false] 51)) hB1
  rw [show (w.alloc (.cells #[.slice A0_0 l0_0.length c0_0, .bool on, .int .i64 kd, .bool p, .bool o] 51)).heap.size = w.heap.size + 1 by simp] at J1
  clear hB1
  have KK := Aside0.mk K1
  have JJ := Aside0.mk J1
  have HBx := HB1
  have k0 := blk_cell K1 0
  have k1 := blk_cell K1 1
  have k2 := blk_cell K1 2
  have k3 := blk_cell K1 3
  have k4 := blk_cell K1 4
  clear K1 J1
  go_wp2_with fail
  refine (clus_Next.calls on kd p o a1 n1 n2 n3 n4 _ HN.out).mono ?_
  rintro e w2 ⟨rfl, hB2⟩
  have hz2 : w.heap.size + 1 < w2.heap.size := by have := hB2.size; (try simp at this); omega
  have HB2 := Aside0.mk (HBx.out.trans (hB2.mono (by (try simp); omega)))
  have K2 := Aside0.mk (blk_below KK.out hB2)
  have J2 := Aside0.mk (blk_below JJ.out hB2)
  clear hB2 KK JJ HBx
  clear k0 k1 k2 k3 k4
  have hy2 : w.heap.size < w2.heap.size := by omega
  have K3 := Aside0.mk (blk_alloc K2.out (.cells #[.slice none 0 0, .bool n1, .int .i64 n2, .bool n3, .bool n4] 51))
  have J3 := Aside0.mk (blk_alloc J2.out (.cells #[.slice none 0 0, .bool n1, .int .i64 n2, .bool n3, .bool n4] 51))
  have M3 := Aside0.mk (blk_new w2 (.cells #[.slice none 0 0, .bool n1, .int .i64 n2, .bool n3, .bool n4] 51))
  have k0 := blk_cell K2.out 0
  have k1 := blk_cell K2.out 1
  have k2 := blk_cell K2.out 2
  have k3 := blk_cell K2.out 3
  have k4 := blk_cell K2.out 4
  go_wp2_with fail
  refine (seg_State_full.calls 30 A0_0 c0_0 l0_0 on kd p o a1 false _ (Kd.F_now (Kd.F_below HF.out (HB2.out.alloc (by omega) _))) HC.out HU.out).mono ?_
  rintro e w4 ⟨rfl, hB4⟩
  have hz4 : w2.heap.size < w4.heap.size := by have := hB4.size; simp at this; omega
  have HB4 := Aside0.mk ((HB2.out.alloc (by omega) (.cells #[.slice none 0 0, .bool n1, .int .i64 n2, .bool n3, .bool n4] 51)).trans (hB4.mono (by simp; omega)))
  have K4 := Aside0.mk (blk_below K3.out hB4)
  have J4 := Aside0.mk (blk_below J3.out hB4)
  have M4 := Aside0.mk (blk_below M3.out hB4)
  clear hB4 HB2 K2 J2 K3 J3 M3
  clear k0 k1 k2 k3 k4
  have k0 := blk_cell K4.out 0
  have k1 := blk_cell K4.out 1
  have k2 := blk_cell K4.out 2
  have k3 := blk_cell K4.out 3
  have k4 := blk_cell K4.out 4
  go_wp2_with fail
  refine (slices_Clone_int_int.calls A0_0 c0_0 l0_0 l0_0 w4 (Kd.F_now (Kd.F_below HF.out HB4.out)) HC.out (by unfold slices_Clone_int_int.f; rw [if_pos (by have := HLn.out; omega)])).mono ?_
  rintro e w5 ⟨v5, rfl, hR5, hB5⟩
  have HR5 := Aside0.mk (Kd.R_reok (ok := fun k => w4.heap.size ≤ k) rfl hR5 (fun k hk => own_base (Kd.own_of_R hR5) k hk))
  have H5 := Aside0.mk hB5
  clear hR5 hB5
  clear k0 k1 k2 k3 k4
  go_wp2_with (at_builtin; refine Kd.R_append (Kd.int .i64) (w0 := w4) w4.heap.size rfl (.tmp 27) (.tmp 29) 22 3 (.int .i64 0) 8 rfl Try.underlying22 info3 rfl (by decide) (by decide) v5 l0_0 a1 [.int .i64 a1] (fun k => w4.heap.size ≤ k) (fun _ => False) rfl rfl rfl (fun _ hk => hk.elim) (fun k hk => Nat.le_trans H5.out.size hk) HR5.out H5.out H5.out.size (by have := HLn.out; omega) ?_; intro v6 w6 ho hb hg hat; have HO6 := Aside0.mk ho; obtain ⟨A6, d6, e6⟩ := Kd.R_slice ho; have M6 := Aside0.mk (blk_below M4.out hb); have J6 := Aside0.mk (blk_below J4.out hb); have hz6 : w4.heap.size ≤ w6.heap.size := hb.size; have HB6 := Aside0.mk (HB4.out.trans (hb.mono (by omega))); clear hg hat hb ho; (try rw [List.nil_append] at e6); simp only [List.length_append, List.length_singleton, List.length_nil, Nat.zero_add] at e6; subst e6; have m0 := blk_cell M6.out 0; have m1 := blk_cell M6.out 1; have m2 := blk_cell M6.out 2; have m3 := blk_cell M6.out 3; have m4 := blk_cell M6.out 4; have g0 := blk_frozen M6.out 0; have y0 := blk_cell J6.out 0; have y1 := blk_cell J6.out 1; have y2 := blk_cell J6.out 2; have y3 := blk_cell J6.out 3; have y4 := blk_cell J6.out 4; have h0 := blk_frozen J6.out 0; have h1 := blk_frozen J6.out 1; have h2 := blk_frozen J6.out 2; have h3 := blk_frozen J6.out 3; have h4 := blk_frozen J6.out 4)
  refine bodyPost_ret (v := .tuple #[.agg #[.slice A6 (l0_0.length + 1) d6, .bool n1, .int .i64 n2, .bool n3, .bool n4], .slice none 0 0]) (by simp [results, Try.results30, go_sem, y0, y1, y2, y3, y4, hz1, hz2, hz4, hz6]) rfl ⟨(.slice A6 (l0_0.length + 1) d6), .slice none 0 0, rfl, ?_, Kd.V_nil _ _ _ _ _, ?_⟩
  · refine Kd.V_mono (ok := fun k => w4.heap.size ≤ k) ?_ (fun k hk => .inr (by omega))
    iterate 6 (refine Kd.V_far ?_ (fun k hk => by simp <;> omega) _)
    exact Kd.R_V HO6.out
  · iterate 6 (refine Below.setCell ?_ (by simp <;> omega) _)
    exact HB6.out
theorem seg_Feed.calls (P0_0_ : Nat → Prop) (A0_0 : Option Addr) (c0_0 : Nat) (l0_0 : List Int) (a0_1 : Bool) (a0_2 : Int) (a0_3 : Bool) (a0_4 : Bool) (a1 : Int) (r1 : List Int) (r2 : Bool) (r3 : Int) (r4 : Bool) (r5 : Bool) (r6 : List Int) (w : World) (hs0_0 : Kd.V (Kd.int .i64) 3 w w.heap.size (fun k_ => P0_0_ k_) (.slice A0_0 l0_0.length c0_0) l0_0) (h : seg_Feed.f l0_0 a0_1 a0_2 a0_3 a0_4 a1 = some (r1, r2, r3, r4, r5, r6)) :
    Calls Try.prog 30 #[.agg #[.slice A0_0 l0_0.length c0_0, .bool a0_1, .int .i64 a0_2, .bool a0_3, .bool a0_4], .int .i64 a1] w fun e w' => ∃ v0_ v5_ : Value, e = .returned (.tuple #[.agg #[v0_, .bool r2, .int .i64 r3, .bool r4, .bool r5], v5_]) ∧ Kd.V (Kd.int .i64) 3 w' w.heap.size (fun k_ => (P0_0_ k_ ∨ w.heap.size ≤ k_)) v0_ r1 ∧ Kd.V (Kd.int .i64) 3 w' w.heap.size (fun k_ => (P0_0_ k_ ∨ w.heap.size ≤ k_)) v5_ r6 ∧ Below w.heap.size w w' := by
  have h2 := Option.some.inj h
  simp only [tup6, Prod.mk.injEq] at h2
  obtain ⟨rfl, rfl, rfl, rfl, rfl, rfl⟩ := h2
  unfold feedP
  cases hs : saneG l0_0 ⟨a0_1, a0_2, a0_3, a0_4⟩ with
  | false => exact feed_bad P0_0_ A0_0 c0_0 l0_0 ⟨a0_1, a0_2, a0_3, a0_4⟩ a1 w hs0_0 hs
  | true =>
    cases hf : fullP l0_0.length ⟨a0_1, a0_2, a0_3, a0_4⟩ a1 with
    | true => exact feed_full P0_0_ A0_0 c0_0 l0_0 ⟨a0_1, a0_2, a0_3, a0_4⟩ a1 w hs0_0 hs hf
    | false => exact feed_on P0_0_ A0_0 c0_0 l0_0 ⟨a0_1, a0_2, a0_3, a0_4⟩ a1 w hs0_0 hs hf
end Go.Proofs.Ytcabijajjceghaa.G
