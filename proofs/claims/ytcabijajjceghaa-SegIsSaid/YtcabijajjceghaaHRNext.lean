/- The machine's side of the reference's Next of package clus, by hand: it says what the plain one says. No condition. -/
import Derived.Test.YtcabijajjceghaaSpecR
import Derived.Test.YtcabijajjceghaaG18
namespace Go.Proofs.Ytcabijajjceghaa.G
open Go.RowKit Go.Proofs.YtcabijajjceghaaW.PrintWords Go.Proofs.YtcabijajjceghaaW.PrintLast Go.Proofs.YtcabijajjceghaaW.PrintMore
set_option linter.unusedVariables false
set_option linter.unusedSimpArgs false

def pentroughref11_Next.f (a0_0 : Bool) (a0_1 : Int) (a0_2 : Bool) (a0_3 : Bool) (a1 : Int) : Option (Bool × Int × Bool × Bool) := some (tup (nextS ⟨a0_0, a0_1, a0_2, a0_3⟩ a1))
theorem five (g : Int) : g = 14 ∨ g = 4 ∨ g = 5 ∨ g = 6 ∨ (g ≠ 14 ∧ g ≠ 4 ∧ g ≠ 5 ∧ g ≠ 6) := by omega
set_option maxHeartbeats 4000000 in
theorem pentroughref11_Next.calls (a0_0 : Bool) (a0_1 : Int) (a0_2 : Bool) (a0_3 : Bool) (a1 : Int) (r1 : Bool) (r2 : Int) (r3 : Bool) (r4 : Bool) (w : World) (h : pentroughref11_Next.f a0_0 a0_1 a0_2 a0_3 a1 = some (r1, r2, r3, r4)) :
    Calls Try.prog 56 #[.agg #[.bool a0_0, .int .i64 a0_1, .bool a0_2, .bool a0_3], .int .i64 a1] w fun e w' => e = .returned (.agg #[.bool r1, .int .i64 r2, .bool r3, .bool r4]) ∧ Below w.heap.size w w' := by
  have hs := rSane_is ⟨a0_0, a0_1, a0_2, a0_3⟩
  have hg := rGcb_is 90 a1 (by decide)
  cases hv : saneC ⟨a0_0, a0_1, a0_2, a0_3⟩ with
  | false =>
    rw [hv] at hs
    have H : true = r1 ∧ gcb a1 = r2 ∧ (if gcb a1 = 14 then true else false) = r3 ∧ (if gcb a1 = 6 then true else false) = r4 := by
      simp only [pentroughref11_Next.f, nextS, nextK, hv, tup, c0, Bool.false_eq_true, if_false, if_true, Bool.false_and, ite_self, Bool.not_false, Option.some.injEq, Prod.mk.injEq] at h
      exact h
    have HS := Aside0.mk hs
    generalize gcb a1 = g at *
    have HG := Aside0.mk hg
    have HH := Aside0.mk H
    clear hs hg H h hv
    go_enter Try.func56, Try.ntmps56
    go_wp2_with fail
    refine (pentroughref11_Sane.calls _ _ _ _ _ _ HS.out).mono ?_
    rintro e w1 ⟨rfl, hB1⟩
    obtain ⟨hc1, hf1⟩ := bcell hB1
    have hz1 : w.heap.size + 1 < w1.heap.size := by have := hB1.size; simp at this; omega
    have hy1 : w.heap.size < w1.heap.size := by omega
    have HB1 := Aside0.mk ((((Below.refl w.heap.size w).alloc (Nat.le_refl _) _).alloc (by simp) _).trans (hB1.mono (by simp; omega)))
    go_wp2_with fail
    refine (pentroughref03_Gcb.calls 90 _ _ _ HG.out).mono ?_
    rintro e w2 ⟨rfl, hB2⟩
    have K0 := blk_alloc (blk_new w (.cells #[.bool a0_0, .int .i64 a0_1, .bool a0_2, .bool a0_3] 46)) (.cells #[.bool false, .int .i64 0, .bool false, .bool false] 46)
    have K1 := blk_below K0 hB1
    have K2 := blk_put (cs' := #[.bool false, .int .i64 a0_1, .bool a0_2, .bool a0_3]) K1 0 (.bool false) rfl
    have K3 := blk_put (cs' := #[.bool false, .int .i64 0, .bool a0_2, .bool a0_3]) K2 1 (.int .i64 0) rfl
    have K4 := blk_put (cs' := #[.bool false, .int .i64 0, .bool false, .bool a0_3]) K3 2 (.bool false) rfl
    have K5 := blk_put (cs' := #[.bool false, .int .i64 0, .bool false, .bool false]) K4 3 (.bool false) rfl
    have K6 := blk_below K5 hB2
    have J0 := blk_new (w.alloc (.cells #[.bool a0_0, .int .i64 a0_1, .bool a0_2, .bool a0_3] 46)) (.cells #[.bool false, .int .i64 0, .bool false, .bool false] 46)
    have J1 := blk_below J0 hB1
    have J2 := blk_far (blk_far (blk_far (blk_far J1 (p := ⟨w.heap.size, 0, none⟩) (by simp) (.bool false)) (p := ⟨w.heap.size, 1, none⟩) (by simp) (.int .i64 0)) (p := ⟨w.heap.size, 2, none⟩) (by simp) (.bool false)) (p := ⟨w.heap.size, 3, none⟩) (by simp) (.bool false)
    have J6 := blk_below J2 hB2
    rw [show (w.alloc (.cells #[.bool a0_0, .int .i64 a0_1, .bool a0_2, .bool a0_3] 46)).heap.size = w.heap.size + 1 by simp] at J6
    have x1 : w2.cell? ⟨w.heap.size, 1, none⟩ = some (.int .i64 0) := blk_cell K6 1
    have x2 : w2.cell? ⟨w.heap.size, 2, none⟩ = some (.bool false) := blk_cell K6 2
    have x3 : w2.cell? ⟨w.heap.size, 3, none⟩ = some (.bool false) := blk_cell K6 3
    have y0 : w2.cell? ⟨w.heap.size + 1, 0, none⟩ = some (.bool false) := blk_cell J6 0
    have y1 : w2.cell? ⟨w.heap.size + 1, 1, none⟩ = some (.int .i64 0) := blk_cell J6 1
    have y2 : w2.cell? ⟨w.heap.size + 1, 2, none⟩ = some (.bool false) := blk_cell J6 2
    have y3 : w2.cell? ⟨w.heap.size + 1, 3, none⟩ = some (.bool false) := blk_cell J6 3
    have f0 := blk_frozen J6 0
    have f1 := blk_frozen J6 1
    have f2 := blk_frozen J6 2
    have f3 := blk_frozen J6 3
    clear K0 K1 K2 K3 K4 K5 K6 J0 J1 J2 J6
    have hz2 : w.heap.size + 1 < w2.heap.size := by have := hB2.size; (try simp at this); omega
    have hy2 : w.heap.size < w2.heap.size := by omega
    have HB2 := Aside0.mk (((((HB1.out.setCell (by simp) _).setCell (by simp) _).setCell (by simp) _).setCell (by simp) _).trans (hB2.mono (by (try simp); omega)))
    clear hB2 hB1 hc1 hf1
    rcases five g with e | e | e | e | e
    · have b14 : (g == 14) = true := by rw [beq_iff_eq]; exact e
      have b4 : (g == 4) = false := by rw [beq_eq_false_iff_ne]; omega
      have b5 : (g == 5) = false := by rw [beq_eq_false_iff_ne]; omega
      have b6 : (g == 6) = false := by rw [beq_eq_false_iff_ne]; omega
      have E := Aside0.mk e
      clear e
      go_wp2
      obtain ⟨rfl, rfl, rfl, rfl⟩ := HH.out
      exact bodyPost_ret (v := .agg #[.bool true, .int .i64 g, .bool true, .bool false]) (by simp [results, Try.results56, go_sem, y0, y1, y2, y3, hz2]) rfl ⟨by simp [E.out], by (repeat (first | exact HB2.out | refine Below.setCell ?_ (by simp) _ | refine Below.alloc ?_ (by simp; omega) _))⟩
    · have b14 : (g == 14) = false := by rw [beq_eq_false_iff_ne]; omega
      have b4 : (g == 4) = true := by rw [beq_iff_eq]; exact e
      have b5 : (g == 5) = false := by rw [beq_eq_false_iff_ne]; omega
      have b6 : (g == 6) = false := by rw [beq_eq_false_iff_ne]; omega
      have E := Aside0.mk e
      clear e
      go_wp2
      obtain ⟨rfl, rfl, rfl, rfl⟩ := HH.out
      exact bodyPost_ret (v := .agg #[.bool true, .int .i64 g, .bool false, .bool false]) (by simp [results, Try.results56, go_sem, y0, y1, y2, y3, hz2]) rfl ⟨by simp [E.out], by (repeat (first | exact HB2.out | refine Below.setCell ?_ (by simp) _ | refine Below.alloc ?_ (by simp; omega) _))⟩
    · have b14 : (g == 14) = false := by rw [beq_eq_false_iff_ne]; omega
      have b4 : (g == 4) = false := by rw [beq_eq_false_iff_ne]; omega
      have b5 : (g == 5) = true := by rw [beq_iff_eq]; exact e
      have b6 : (g == 6) = false := by rw [beq_eq_false_iff_ne]; omega
      have E := Aside0.mk e
      clear e
      go_wp2
      obtain ⟨rfl, rfl, rfl, rfl⟩ := HH.out
      exact bodyPost_ret (v := .agg #[.bool true, .int .i64 g, .bool false, .bool false]) (by simp [results, Try.results56, go_sem, y0, y1, y2, y3, hz2]) rfl ⟨by simp [E.out], by (repeat (first | exact HB2.out | refine Below.setCell ?_ (by simp) _ | refine Below.alloc ?_ (by simp; omega) _))⟩
    · have b14 : (g == 14) = false := by rw [beq_eq_false_iff_ne]; omega
      have b4 : (g == 4) = false := by rw [beq_eq_false_iff_ne]; omega
      have b5 : (g == 5) = false := by rw [beq_eq_false_iff_ne]; omega
      have b6 : (g == 6) = true := by rw [beq_iff_eq]; exact e
      have E := Aside0.mk e
      clear e
      go_wp2
      obtain ⟨rfl, rfl, rfl, rfl⟩ := HH.out
      exact bodyPost_ret (v := .agg #[.bool true, .int .i64 g, .bool false, .bool true]) (by simp [results, Try.results56, go_sem, y0, y1, y2, y3, hz2]) rfl ⟨by simp [E.out], by (repeat (first | exact HB2.out | refine Below.setCell ?_ (by simp) _ | refine Below.alloc ?_ (by simp; omega) _))⟩
    · have b14 : (g == 14) = false := by rw [beq_eq_false_iff_ne]; omega
      have b4 : (g == 4) = false := by rw [beq_eq_false_iff_ne]; omega
      have b5 : (g == 5) = false := by rw [beq_eq_false_iff_ne]; omega
      have b6 : (g == 6) = false := by rw [beq_eq_false_iff_ne]; omega
      have E := Aside0.mk e
      clear e
      go_wp2
      obtain ⟨rfl, rfl, rfl, rfl⟩ := HH.out
      exact bodyPost_ret (v := .agg #[.bool true, .int .i64 g, .bool false, .bool false]) (by simp [results, Try.results56, go_sem, y0, y1, y2, y3, hz2]) rfl ⟨by simp [E.out], by (repeat (first | exact HB2.out | refine Below.setCell ?_ (by simp) _ | refine Below.alloc ?_ (by simp; omega) _))⟩
  | true =>
    rw [hv] at hs
    have H : true = r1 ∧ gcb a1 = r2 ∧ (if gcb a1 = 14 then true else if gcb a1 = 4 ∨ gcb a1 = 5 then a0_2 && a0_1 != 5 else false) = r3 ∧ (if gcb a1 = 6 then !a0_3 else false) = r4 := by
      simp only [pentroughref11_Next.f, nextS, nextK, hv, tup, c0, Bool.false_eq_true, if_false, if_true, Bool.false_and, ite_self, Bool.not_false, Option.some.injEq, Prod.mk.injEq] at h
      exact h
    have HS := Aside0.mk hs
    generalize gcb a1 = g at *
    have HG := Aside0.mk hg
    have HH := Aside0.mk H
    clear hs hg H h hv
    go_enter Try.func56, Try.ntmps56
    go_wp2_with fail
    refine (pentroughref11_Sane.calls _ _ _ _ _ _ HS.out).mono ?_
    rintro e w1 ⟨rfl, hB1⟩
    obtain ⟨hc1, hf1⟩ := bcell hB1
    have hz1 : w.heap.size + 1 < w1.heap.size := by have := hB1.size; simp at this; omega
    have hy1 : w.heap.size < w1.heap.size := by omega
    have HB1 := Aside0.mk ((((Below.refl w.heap.size w).alloc (Nat.le_refl _) _).alloc (by simp) _).trans (hB1.mono (by simp; omega)))
    clear hB1
    go_wp2_with fail
    refine (pentroughref03_Gcb.calls 90 _ _ _ HG.out).mono ?_
    rintro e w2 ⟨rfl, hB2⟩
    obtain ⟨hc2, hf2⟩ := bcell hB2
    have hz2 : w.heap.size + 1 < w2.heap.size := by have := hB2.size; (try simp at this); omega
    have hy2 : w.heap.size < w2.heap.size := by omega
    have HB2 := Aside0.mk ((HB1.out).trans (hB2.mono (by (try simp); omega)))
    clear hB2
    rcases five g with e | e | e | e | e
    · have b14 : (g == 14) = true := by rw [beq_iff_eq]; exact e
      have b4 : (g == 4) = false := by rw [beq_eq_false_iff_ne]; omega
      have b5 : (g == 5) = false := by rw [beq_eq_false_iff_ne]; omega
      have b6 : (g == 6) = false := by rw [beq_eq_false_iff_ne]; omega
      have E := Aside0.mk e
      clear e
      go_wp2
      obtain ⟨rfl, rfl, rfl, rfl⟩ := HH.out
      exact bodyPost_ret (v := .agg #[.bool true, .int .i64 g, .bool true, .bool false]) (by simp [results, Try.results56, go_sem, hc2, hz2, hc1, hz1, hy1, hy2]) rfl ⟨by simp [E.out], by (repeat (first | exact HB2.out | refine Below.setCell ?_ (by simp) _ | refine Below.alloc ?_ (by simp; omega) _))⟩
    · have b14 : (g == 14) = false := by rw [beq_eq_false_iff_ne]; omega
      have b4 : (g == 4) = true := by rw [beq_iff_eq]; exact e
      have b5 : (g == 5) = false := by rw [beq_eq_false_iff_ne]; omega
      have b6 : (g == 6) = false := by rw [beq_eq_false_iff_ne]; omega
      have E := Aside0.mk e
      clear e
      cases a0_2 with
      | false =>
        go_wp2
        obtain ⟨rfl, rfl, rfl, rfl⟩ := HH.out
        exact bodyPost_ret (v := .agg #[.bool true, .int .i64 g, .bool false, .bool false]) (by simp [results, Try.results56, go_sem, hc2, hz2, hc1, hz1, hy1, hy2]) rfl ⟨by simp [E.out], by (repeat (first | exact HB2.out | refine Below.setCell ?_ (by simp) _ | refine Below.alloc ?_ (by simp; omega) _))⟩
      | true =>
        by_cases q : a0_1 = 5
        · have b : (a0_1 != 5) = false := bne_eq_false_iff_eq.mpr q
          have Q := Aside0.mk q
          clear q
          go_wp2
          obtain ⟨rfl, rfl, rfl, rfl⟩ := HH.out
          exact bodyPost_ret (v := .agg #[.bool true, .int .i64 g, .bool false, .bool false]) (by simp [results, Try.results56, go_sem, hc2, hz2, hc1, hz1, hy1, hy2]) rfl ⟨by simp [E.out, Q.out], by (repeat (first | exact HB2.out | refine Below.setCell ?_ (by simp) _ | refine Below.alloc ?_ (by simp; omega) _))⟩
        · have b : (a0_1 != 5) = true := bne_iff_ne.mpr q
          have Q := Aside0.mk q
          clear q
          go_wp2
          obtain ⟨rfl, rfl, rfl, rfl⟩ := HH.out
          exact bodyPost_ret (v := .agg #[.bool true, .int .i64 g, .bool true, .bool false]) (by simp [results, Try.results56, go_sem, hc2, hz2, hc1, hz1, hy1, hy2]) rfl ⟨by simp [E.out, Q.out], by (repeat (first | exact HB2.out | refine Below.setCell ?_ (by simp) _ | refine Below.alloc ?_ (by simp; omega) _))⟩
    · have b14 : (g == 14) = false := by rw [beq_eq_false_iff_ne]; omega
      have b4 : (g == 4) = false := by rw [beq_eq_false_iff_ne]; omega
      have b5 : (g == 5) = true := by rw [beq_iff_eq]; exact e
      have b6 : (g == 6) = false := by rw [beq_eq_false_iff_ne]; omega
      have E := Aside0.mk e
      clear e
      cases a0_2 with
      | false =>
        go_wp2
        obtain ⟨rfl, rfl, rfl, rfl⟩ := HH.out
        exact bodyPost_ret (v := .agg #[.bool true, .int .i64 g, .bool false, .bool false]) (by simp [results, Try.results56, go_sem, hc2, hz2, hc1, hz1, hy1, hy2]) rfl ⟨by simp [E.out], by (repeat (first | exact HB2.out | refine Below.setCell ?_ (by simp) _ | refine Below.alloc ?_ (by simp; omega) _))⟩
      | true =>
        by_cases q : a0_1 = 5
        · have b : (a0_1 != 5) = false := bne_eq_false_iff_eq.mpr q
          have Q := Aside0.mk q
          clear q
          go_wp2
          obtain ⟨rfl, rfl, rfl, rfl⟩ := HH.out
          exact bodyPost_ret (v := .agg #[.bool true, .int .i64 g, .bool false, .bool false]) (by simp [results, Try.results56, go_sem, hc2, hz2, hc1, hz1, hy1, hy2]) rfl ⟨by simp [E.out, Q.out], by (repeat (first | exact HB2.out | refine Below.setCell ?_ (by simp) _ | refine Below.alloc ?_ (by simp; omega) _))⟩
        · have b : (a0_1 != 5) = true := bne_iff_ne.mpr q
          have Q := Aside0.mk q
          clear q
          go_wp2
          obtain ⟨rfl, rfl, rfl, rfl⟩ := HH.out
          exact bodyPost_ret (v := .agg #[.bool true, .int .i64 g, .bool true, .bool false]) (by simp [results, Try.results56, go_sem, hc2, hz2, hc1, hz1, hy1, hy2]) rfl ⟨by simp [E.out, Q.out], by (repeat (first | exact HB2.out | refine Below.setCell ?_ (by simp) _ | refine Below.alloc ?_ (by simp; omega) _))⟩
    · have b14 : (g == 14) = false := by rw [beq_eq_false_iff_ne]; omega
      have b4 : (g == 4) = false := by rw [beq_eq_false_iff_ne]; omega
      have b5 : (g == 5) = false := by rw [beq_eq_false_iff_ne]; omega
      have b6 : (g == 6) = true := by rw [beq_iff_eq]; exact e
      have E := Aside0.mk e
      clear e
      go_wp2
      obtain ⟨rfl, rfl, rfl, rfl⟩ := HH.out
      exact bodyPost_ret (v := .agg #[.bool true, .int .i64 g, .bool false, .bool (!a0_3)]) (by simp [results, Try.results56, go_sem, hc2, hz2, hc1, hz1, hy1, hy2]) rfl ⟨by simp [E.out], by (repeat (first | exact HB2.out | refine Below.setCell ?_ (by simp) _ | refine Below.alloc ?_ (by simp; omega) _))⟩
    · have b14 : (g == 14) = false := by rw [beq_eq_false_iff_ne]; omega
      have b4 : (g == 4) = false := by rw [beq_eq_false_iff_ne]; omega
      have b5 : (g == 5) = false := by rw [beq_eq_false_iff_ne]; omega
      have b6 : (g == 6) = false := by rw [beq_eq_false_iff_ne]; omega
      have E := Aside0.mk e
      clear e
      go_wp2
      obtain ⟨rfl, rfl, rfl, rfl⟩ := HH.out
      exact bodyPost_ret (v := .agg #[.bool true, .int .i64 g, .bool false, .bool false]) (by simp [results, Try.results56, go_sem, hc2, hz2, hc1, hz1, hy1, hy2]) rfl ⟨by simp [E.out], by (repeat (first | exact HB2.out | refine Below.setCell ?_ (by simp) _ | refine Below.alloc ?_ (by simp; omega) _))⟩
end Go.Proofs.Ytcabijajjceghaa.G
