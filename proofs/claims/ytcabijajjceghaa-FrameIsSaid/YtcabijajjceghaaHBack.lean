/- The machine's side of FrameBack, by hand: it answers true. No condition. -/
import Derived.RegionTactic
import Derived.BigRegion
import Derived.Deep.RegionHeld3
import Derived.Deep.DrawnRows
import Derived.Test.YtcabijajjceghaaBackP
namespace Go.Proofs.Ytcabijajjceghaa.G
open Go.RowKit Go.Proofs.YtcabijajjceghaaW.PrintWords Go.Proofs.YtcabijajjceghaaW.PrintLast Go.Proofs.YtcabijajjceghaaW.PrintMore
attribute [local go_sem ↓] Go.wp_at_zero Go.wp_at_succ
set_option linter.unusedVariables false
set_option linter.unusedSimpArgs false

theorem V_strB {P : Program} {W : World} {src dst e : TypeId} {e2 base : Nat} {ok : Nat → Prop} {v : Value} {xs : List Int} (hs : P.underlying src = some (.slice e)) (he : P.underlying e = some (.int .u8)) (hd : P.underlying dst = some .string)
    (h : Kd.V (Kd.int .u8) e2 W base ok v xs) : (convert src dst v).run P W = .ok (.string (strOfNums xs)) W := by
  obtain ⟨A, c, rfl⟩ := Kd.V_slice h
  have h2 := (Kd.V_reads' h).2.2
  exact Kd.C_string hs he hd h2

theorem take_at (k n : Nat) (A : Option Addr) (c : Nat) (l : List Int) (r1 : List Int) (r2 : Int) (r3 : Int) (w : World) (hs : Kd.V (Kd.int .u8) 5 w w.heap.size (fun _ => True) (.slice A l.length c) l) (hn : n = l.length) (h : frame_Take.f k l = some (r1, r2, r3)) :
    Calls Try.prog 16 #[.slice A n c] w fun e w' => ∃ v0_ : Value, e = .returned (.tuple #[v0_, .int .i64 r2, .int .i64 r3]) ∧ Kd.V (Kd.int .u8) 5 w' w.heap.size (fun _ => True) v0_ r1 ∧ Below w.heap.size w w' := by
  subst hn
  refine (frame_Take.calls k (fun _ => True) A c l r1 r2 r3 w hs h).mono ?_
  rintro e w' ⟨v, rfl, hv, hb⟩
  exact ⟨v, rfl, Kd.V_mono hv (fun _ _ => trivial), hb⟩

theorem back_long (A0 : Option Addr) (c0 : Nat) (l0 : List Int) (A1 : Option Addr) (c1 : Nat) (l1 : List Int) (w : World) (hl : 200 < l0.length ∨ 100 < l1.length) :
    Calls Try.prog 3 #[.slice A0 l0.length c0, .slice A1 l1.length c1] w fun e w' => e = .returned (.bool true) ∧ Below w.heap.size w w' := by
  have HA := Aside0.mk awake13_back
  rcases hl with hl | hl
  · have e1 : decide ((200 : Int) < (l0.length : Int)) = true := decide_eq_true (by omega)
    go_enter Try.func3, Try.ntmps3
    go_wp2_with fail
    refine (pentroughlaw13_awake.calls 20 true _ HA.out).mono ?_
    rintro e w1 ⟨rfl, hb⟩
    have HB := Aside0.mk hb
    clear hb
    go_wp2_with fail
    go_ret
    exact ⟨rfl, HB.out⟩
  · have e1 : decide ((100 : Int) < (l1.length : Int)) = true := decide_eq_true (by omega)
    by_cases h2 : 200 < l0.length
    all_goals
      go_enter Try.func3, Try.ntmps3
      go_wp2_with fail
      refine (pentroughlaw13_awake.calls 20 true _ HA.out).mono ?_
      rintro e w1 ⟨rfl, hb⟩
      have HB := Aside0.mk hb
      clear hb
      go_wp2_with fail
      go_ret
      exact ⟨rfl, HB.out⟩

theorem back_none (A0 : Option Addr) (c0 : Nat) (A1 : Option Addr) (c1 : Nat) (l1 : List Int) (w : World) (hr0 : Kd.C (Kd.int .i64) w A0 ([] : List Int).length []) (h1 : l1.length ≤ 100) :
    Calls Try.prog 3 #[.slice A0 ([] : List Int).length c0, .slice A1 l1.length c1] w fun e w' => e = .returned (.bool true) ∧ Below w.heap.size w w' := by
  have HA := Aside0.mk awake13_back
  have HR := Aside0.mk hr0
  have HP := Aside0.mk (show frame_Put.f [] = some [] from rfl)
  have e1 : decide ((100 : Int) < (l1.length : Int)) = false := decide_eq_false (by omega)
  go_enter Try.func3, Try.ntmps3
  go_wp2_with fail
  refine (pentroughlaw13_awake.calls 20 true _ HA.out).mono ?_
  rintro e w1 ⟨rfl, hb⟩
  have HB := Aside0.mk hb
  clear hb
  go_wp2_with fail
  refine (frame_Put.calls A0 c0 [] [] _ (Kd.C_below HR.out HB.out) (Nat.zero_le _) HP.out).mono ?_
  rintro e w2 ⟨v, rfl, hv, hb⟩
  have HB2 := Aside0.mk (HB.out.trans (hb.mono HB.out.size))
  obtain ⟨Ao, co, rfl⟩ := Kd.R_slice hv
  clear hv hb
  go_wp2_with fail
  go_ret
  exact ⟨rfl, HB2.out⟩

set_option maxHeartbeats 400000 in
set_option maxRecDepth 100000 in
theorem back_main (A0 : Option Addr) (c0 : Nat) (l0 : List Int) (A1 : Option Addr) (c1 : Nat) (l1 : List Int) (w : World) (hr0 : Kd.C (Kd.int .i64) w A0 l0.length l0) (hc0 : l0.length ≤ c0) (hr1 : Kd.C (Kd.int .u8) w A1 l1.length l1) (hc1 : l1.length ≤ c1) (hn : l0 ≠ []) (h0 : l0.length ≤ 200) (h1 : l1.length ≤ 100) :
    Calls Try.prog 3 #[.slice A0 l0.length c0, .slice A1 l1.length c1] w fun e w' => e = .returned (.bool true) ∧ Below w.heap.size w w' := by
  have HA := Aside0.mk awake13_back
  have HR0 := Aside0.mk hr0
  have HR1 := Aside0.mk hr1
  obtain ⟨b, t, hp, b0, b1, ht, hk, hs⟩ := back_is l0 hn h0
  have HP := Aside0.mk hp
  have HT := Aside0.mk ht
  have HK := Aside0.mk (hk l1 h1)
  have HS := Aside0.mk hs
  have e0 : decide ((200 : Int) < (l0.length : Int)) = false := decide_eq_false (by omega)
  have e1 : decide ((100 : Int) < (l1.length : Int)) = false := decide_eq_false (by omega)
  have e2 : ((l0.length : Int) == 0) = false := by
    have : 0 < l0.length := List.length_pos_iff.2 hn
    simp
    omega
  have e3 : decide ((b.length : Int) < 2) = false := decide_eq_false (by omega)
  clear hr0 hr1 hp ht hk hs
  go_enter Try.func3, Try.ntmps3
  go_wp2_with fail
  refine (pentroughlaw13_awake.calls 20 true _ HA.out).mono ?_
  rintro e w1 ⟨rfl, hb⟩
  have HB := Aside0.mk hb
  clear hb
  go_wp2_with fail
  refine (frame_Put.calls A0 c0 l0 b _ (Kd.C_below HR0.out HB.out) hc0 HP.out).mono ?_
  rintro e w2 ⟨v, rfl, hv, hb⟩
  have HB2 := Aside0.mk (HB.out.trans (hb.mono HB.out.size))
  obtain ⟨Ao, co, rfl⟩ := Kd.R_slice hv
  have HO := Aside0.mk (Kd.R_reads' hv).2.2
  have hco := (Kd.R_reads' hv).2.1
  have HC1 := Aside0.mk (Kd.C_below HR1.out HB2.out)
  clear hv hb HB
  go_wp2_with (first
    | ((with_reducible refine gate_dst (N := 38) rfl ?_); refine Kd.R_lit (Kd.int .u8) (w0 := w2) w2.heap.size 5 ?hg (N := 38) ?hd (xs := ([] : List Int)) (inner := []) (ok := fun _ => True) (okp := fun _ => True) ?hr ?hp (fun _ hk => hk) trivial (Below.refl _ _) (Nat.le_refl _) (by simp) ?_; (case hd => rfl); (case hg => rfl); (case hr => first | kernel_rfl | (go_simp; done) | (go_simp; rfl)); (case hp => exact (Reps.none _ _)); intro v3 w3 ho hb hg_ hnew_; clear hg_ hnew_; have HV3 := Aside0.mk ho; have H3 := Aside0.mk hb; clear ho hb)
    | ((with_reducible refine gate_builtin (b := .append) (xs := #[.tmp 38, .tmp 39]) rfl ?_); at_builtin; refine Kd.R_append_rows (Kd.int .u8) (w0 := w2) w2.heap.size rfl (.tmp 38) (.tmp 39) 23 5 (.int .u8 0) 1 rfl Try.underlying23 info5 rfl (by decide) (by omega) v3 [] b Ao b.length co (fun _ => True) (fun _ => False) rfl rfl HV3.out (Kd.C_below HO.out H3.out) (fun _ _ h => h) (fun _ h => h.elim) (fun _ _ => trivial) H3.out H3.out.size (by simp; omega) ?_; intro v4 w4 ho hb hg hat; have HV4 := Aside0.mk ho; have H4 := Aside0.mk hb; clear ho hb hg hat)
    | ((with_reducible refine gate_builtin (b := .append) (xs := #[.tmp 41, .tmp 42]) rfl ?_); at_builtin; refine Kd.R_append_rows (Kd.int .u8) (w0 := w2) w2.heap.size rfl (.tmp 41) (.tmp 42) 23 5 (.int .u8 0) 1 rfl Try.underlying23 info5 rfl (by decide) (by omega) v4 ([] ++ b) l1 A1 l1.length c1 (fun _ => True) (fun _ => False) rfl rfl HV4.out (Kd.C_below HC1.out H4.out) (fun _ _ h => h) (fun _ h => h.elim) (fun _ _ => trivial) H4.out H4.out.size (by simp; omega) ?_; intro v5 w5 ho hb hg hat; rw [List.nil_append] at ho; have HB5 := Aside0.mk (HB2.out.trans (hb.mono HB2.out.size)); obtain ⟨A5, c5, e5⟩ := Kd.R_slice ho; subst e5; have HV5 := Aside0.mk ho; have H5 := Aside0.mk hb; clear ho hb hg hat))
  refine (take_at 20 (b.length + l1.length) A5 c5 (b ++ l1) t (b.length : Int) 0 _ (Kd.R_V HV5.out) (by simp) HK.out).mono ?_
  rintro e w6 ⟨v6, rfl, hv, hb⟩
  have HB6 := Aside0.mk (HB5.out.trans (hb.mono HB5.out.size))
  have H6 := Aside0.mk (H5.out.trans (hb.mono H5.out.size))
  obtain ⟨A6, c6, rfl⟩ := Kd.V_slice hv
  have HV6 := Aside0.mk hv
  clear hv hb
  go_wp2_with fail
  have hV := Kd.V_mono (ok' := fun _ => True) (Kd.V_mk (e := 5) (base := w6.heap.size) (c := co) (by rw [List.length_take]; omega) (Kd.C_F (Kd.heap_int .u8) (Kd.C_take (m := b.length - 1) (Kd.C_below HO.out H6.out) (by omega)))) (fun _ _ => trivial)
  refine (take_at 20 (b.length - 1) Ao co (b.take (b.length - 1)) [] 0 1 _ hV (by rw [List.length_take]; omega) HS.out).mono ?_
  rintro e w7 ⟨v7, rfl, hv, hb⟩
  have HB7 := Aside0.mk (HB6.out.trans (hb.mono HB6.out.size))
  have HV7 := Aside0.mk (Kd.V_below HV6.out hb)
  have hC7 := Kd.C_below HR0.out HB7.out
  clear hv hb hV
  have HU := Aside0.mk (show dec_Text.f l0 = some (textB l0) by unfold dec_Text.f; rw [if_pos (by omega)]; rfl)
  have hcv := V_strB (P := Try.prog) (src := 23) (dst := 9) (e := 5) Try.underlying23 Try.underlying5 Try.underlying9 (Kd.V_drew HV7.out)
  rw [HT.out] at hcv
  have hC8 := Aside0.mk (Kd.C_drew hC7)
  clear hC7
  go_wp2_with fail
  go_region_held3 (fun w' => Sem.run Try.prog (convert 23 9 (Value.slice A6 t.length c6)) w' = Result.ok (Value.string (textB l0)) w') (assumption) (first | (go_at_call 17; refine (dec_Text.calls A0 c0 l0 (textB l0) _ hC8.out hc0 HU.out).mono ?_; rintro e w8 ⟨rfl, hb⟩; have HB8 := Aside0.mk ((pw_below_drewN HB7.out 1).trans (hb.mono HB7.out.size)); have hcv2 := V_strB (P := Try.prog) (src := 23) (dst := 9) (e := 5) Try.underlying23 Try.underlying5 Try.underlying9 (Kd.V_below (Kd.V_drew HV7.out) hb); rw [HT.out] at hcv2; clear hb))
  go_wp2
  go_ret
  exact ⟨rfl, HB8.out⟩

theorem FrameBack.calls (A0 : Option Addr) (c0 : Nat) (l0 : List Int) (A1 : Option Addr) (c1 : Nat) (l1 : List Int) (w : World) (hr0 : Kd.C (Kd.int .i64) w A0 l0.length l0) (hc0 : l0.length ≤ c0) (hr1 : Kd.C (Kd.int .u8) w A1 l1.length l1) (hc1 : l1.length ≤ c1) :
    Calls Try.prog 3 #[.slice A0 l0.length c0, .slice A1 l1.length c1] w fun e w' => e = .returned (.bool true) ∧ Below w.heap.size w w' := by
  by_cases h0 : 200 < l0.length ∨ 100 < l1.length
  · exact back_long A0 c0 l0 A1 c1 l1 w h0
  by_cases hn : l0 = []
  · subst hn
    exact back_none A0 c0 A1 c1 l1 w hr0 (by omega)
  · exact back_main A0 c0 l0 A1 c1 l1 w hr0 hc0 hr1 hc1 hn (by omega) (by omega)
end Go.Proofs.Ytcabijajjceghaa.G
