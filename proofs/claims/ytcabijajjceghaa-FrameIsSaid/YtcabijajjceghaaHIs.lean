/- The machine's side of FrameIs, by hand: it answers true where the plain sides agree. (Printed by mkis.py.) -/
import Derived.RegionTactic
import Derived.Deep.RegionHeld3
import Derived.Deep.DrawnRows
import Derived.Test.YtcabijajjceghaaHBack
import Derived.Test.YtcabijajjceghaaG7
import Derived.Test.YtcabijajjceghaaG8
import Derived.Test.YtcabijajjceghaaG7
import Derived.Test.YtcabijajjceghaaG10
import Derived.Test.YtcabijajjceghaaG11
namespace Go.Proofs.Ytcabijajjceghaa.G
open Go.RowKit Go.Proofs.YtcabijajjceghaaW.PrintWords Go.Proofs.YtcabijajjceghaaW.PrintLast Go.Proofs.YtcabijajjceghaaW.PrintMore
set_option linter.unusedVariables false
set_option linter.unusedSimpArgs false

section
variable {P : Program} {L : List Oper} {Q : Exit → Act → World → Prop} {md : Region.Mode} {S S' : World → Prop}
/-- A stronger condition serves from here on. -/
theorem wpAnyH_strong {ops : Array Oper} (hS : ∀ w, S' w → S w) : ∀ (fuel : Nat) (listed : Array Bool) (a : Act) (w : World), wpAnyH P md ops Q S' fuel listed a w → wpAnyH P md ops Q S fuel listed a w
  | 0, _, _, _, h => h
  | fuel + 1, _, _, _, h => ⟨h.1, fun i hi => wpOp_mono (fun a' w' h' => ⟨hS _ h'.1, wpAnyH_strong hS fuel _ a' w' h'.2⟩) (h.2 i hi)⟩
theorem at_drop {i : Nat} {oi : Oper} {rest : List Oper} (h : L.drop i = oi :: rest) : (L.toArray)[i]? = some oi := by
  rw [List.getElem?_toArray, ← List.head?_drop, h]
  rfl
theorem take_drop {i : Nat} {oi : Oper} {rest : List Oper} {v : Value} {fuel : Nat} {listed : Array Bool} {a : Act} {w : World} (h : L.drop i = oi :: rest)
    (hs : Region.noSelect L.toArray = true) (hf : Region.free md L.toArray listed i = true) (hr : (Region.ready md L.toArray listed).contains i = true)
    (hQ : ∀ c a w, Q (.panic c) (a.put oi.dst v) w → Q (.panic c) a w) (hy : YieldsIf P L.toArray S oi v a) (hS : S w)
    (k : wpAnyH P md L.toArray Q S fuel (listed.setIfInBounds i true) (a.put oi.dst v) w) : wpAnyH P md L.toArray Q S (fuel + 1) listed a w :=
  wpAnyH_take (at_drop h) hs hf hr hQ hy hS k
theorem cons_drop {fuel : Nat} {listed : Array Bool} {a : Act} {w : World} {i : Nat} {o : Oper} {rest : List Oper} {rs : List Nat} (ho : L.drop i = o :: rest)
    (h : ∀ K' : Act → World → Prop, Shut (∀ a w, S w → (S w → wpAnyH P md L.toArray Q S fuel (listed.setIfInBounds i true) a w) → K' a w) → if Region.wanted o (yielded L.toArray a.tmps) = true then Oper.wp P o a w K' Q else K' (a.put o.dst undef) w)
    (hs : AllReadyH P md L.toArray Q S fuel listed a w rs) : AllReadyH P md L.toArray Q S fuel listed a w (i :: rs) := AllReadyH.cons (at_drop ho) h hs
end


theorem is_long (A0 : Option Addr) (c0 : Nat) (l0 : List Int) (A1 : Option Addr) (c1 : Nat) (l1 : List Int) (w : World) (hl : 200 < l0.length ∨ 400 < l1.length) :
    Calls Try.prog 5 #[.slice A0 l0.length c0, .slice A1 l1.length c1] w fun e w' => e = .returned (.bool true) ∧ Below w.heap.size w w' := by
  have HA := Aside0.mk awake13_back
  rcases hl with hl | hl
  · have e1 : decide ((200 : Int) < (l0.length : Int)) = true := decide_eq_true (by omega)
    go_enter Try.func5, Try.ntmps5
    go_wp2_with fail
    refine (pentroughlaw13_awake.calls 20 true _ HA.out).mono ?_
    rintro e w1 ⟨rfl, hb⟩
    have HB := Aside0.mk hb
    clear hb
    go_wp2_with fail
    go_ret
    exact ⟨rfl, HB.out⟩
  · have e1 : decide ((400 : Int) < (l1.length : Int)) = true := decide_eq_true (by omega)
    by_cases h2 : 200 < l0.length
    all_goals
      go_enter Try.func5, Try.ntmps5
      go_wp2_with fail
      refine (pentroughlaw13_awake.calls 20 true _ HA.out).mono ?_
      rintro e w1 ⟨rfl, hb⟩
      have HB := Aside0.mk hb
      clear hb
      go_wp2_with fail
      go_ret
      exact ⟨rfl, HB.out⟩

/-- What the plain sides must give. -/
structure IsFacts (l0 l1 b t : List Int) (n e : Int) (T : List ByteArray) (m g : Int) : Prop where
  put : frame_Put.f l0 = some b
  rput : pentroughref13_Put.f 2000 l0 = some b
  tk : frame_Take.f 2000 l1 = some (t, n, e)
  rtk : pentroughref13_Take.f 2000 l1 = some (t, n, e)
  al : frame_All.f 2000 l1 = some (T, m, g)
  ral : pentroughref13_All.f 2000 l1 = some (T, m, g)
  tx : pentroughref13_Texts.f 2000 T T = some true

set_option maxHeartbeats 4000000 in
set_option maxRecDepth 100000 in
theorem is_main (A0 : Option Addr) (c0 : Nat) (l0 : List Int) (A1 : Option Addr) (c1 : Nat) (l1 : List Int) (b t : List Int) (n e0 : Int) (T : List ByteArray) (m g : Int) (w : World) (hr0 : Kd.C (Kd.int .i64) w A0 l0.length l0) (hc0 : l0.length ≤ c0) (hr1 : Kd.C (Kd.int .u8) w A1 l1.length l1) (hc1 : l1.length ≤ c1) (h0 : l0.length ≤ 200) (h1 : l1.length ≤ 400) (hF : IsFacts l0 l1 b t n e0 T m g) :
    Calls Try.prog 5 #[.slice A0 l0.length c0, .slice A1 l1.length c1] w fun e w' => e = .returned (.bool true) ∧ Below w.heap.size w w' := by
  have HA := Aside0.mk awake13_back
  have HR0 := Aside0.mk hr0
  have HR1 := Aside0.mk hr1
  have HF := Aside0.mk hF
  have HG := Aside0.mk (show frame_Refusal.f 20 = some [0] by decide +kernel)
  have HH := Aside0.mk (show pentroughref13_Refusal.f = some [0] from rfl)
  have e1 : decide ((200 : Int) < (l0.length : Int)) = false := decide_eq_false (by omega)
  have e2 : decide ((400 : Int) < (l1.length : Int)) = false := decide_eq_false (by omega)
  clear hr0 hr1 hF
  go_enter Try.func5, Try.ntmps5
  go_wp2_with fail
  refine (pentroughlaw13_awake.calls 20 true _ HA.out).mono ?_
  rintro e w1 ⟨rfl, hb⟩
  have HB1 := Aside0.mk hb
  have hV := Kd.V_mono (ok' := fun _ => True) (Kd.V_mk (e := 5) (base := w1.heap.size) hc1 (Kd.C_F (Kd.heap_int .u8) (Kd.C_below HR1.out hb))) (fun _ _ => trivial)
  have HV1 := Aside0.mk hV
  clear hb hV
  go_wp2_with fail
  refine (take_at 2000 l1.length A1 c1 l1 t n e0 _ HV1.out rfl HF.out.tk).mono ?_
  rintro e w2 ⟨v2, rfl, hv, hb⟩
  have HB2 := Aside0.mk (HB1.out.trans (hb.mono HB1.out.size))
  have HV2 := Aside0.mk (Kd.V_lower (base' := 0) hv (Nat.zero_le _))
  have HL2 := Aside0.mk (Kd.V_below HV1.out hb)
  obtain ⟨A2, c2, rfl⟩ := Kd.V_slice hv
  clear hv hb HB1 HV1
  go_wp2_with fail
  refine (pentroughref13_Take.calls 2000 (fun _ => True) A1 c1 l1 t n e0 _ HL2.out HF.out.rtk).mono ?_
  rintro e w3 ⟨v3, rfl, hv, hb⟩
  have HB3 := Aside0.mk (HB2.out.trans (hb.mono HB2.out.size))
  have HV3 := Aside0.mk (Kd.V_below HV2.out hb)
  have HW3 := Aside0.mk (Kd.V_mono (ok' := fun _ => True) (Kd.V_lower (base' := 0) hv (Nat.zero_le _)) (fun _ _ => trivial))
  have HL3 := Aside0.mk (Kd.V_below HL2.out hb)
  obtain ⟨A3, c3, rfl⟩ := Kd.V_slice hv
  clear hv hb HB2 HV2 HL2
  go_wp2_with fail
  refine (frame_All.calls 2000 (fun _ => True) A1 c1 l1 T m g _ HL3.out HF.out.al).mono ?_
  rintro e w4 ⟨v4, rfl, hv, hb⟩
  have HB4 := Aside0.mk (HB3.out.trans (hb.mono HB3.out.size))
  have HV4 := Aside0.mk (Kd.V_below HV3.out hb)
  have HW4 := Aside0.mk (Kd.V_below HW3.out hb)
  obtain ⟨A4, c4, rfl⟩ := Kd.R_slice hv
  have hc4 := (Kd.R_reads' hv).2.1
  have HT4 := Aside0.mk (Kd.R_reads' hv).2.2
  clear hv hb HB3 HV3 HW3 HL3
  go_wp2_with fail
  refine (pentroughref13_All.calls 2000 A1 c1 l1 T m g _ (Kd.C_below HR1.out HB4.out) hc1 HF.out.ral).mono ?_
  rintro e w5 ⟨v5, rfl, hv, hb⟩
  have HB5 := Aside0.mk (HB4.out.trans (hb.mono HB4.out.size))
  have HV5 := Aside0.mk (Kd.V_below HV4.out hb)
  have HW5 := Aside0.mk (Kd.V_below HW4.out hb)
  have HT5 := Aside0.mk (Kd.C_below HT4.out hb)
  obtain ⟨A5, c5, rfl⟩ := Kd.R_slice hv
  have hc5 := (Kd.R_reads' hv).2.1
  have HU5 := Aside0.mk (Kd.R_reads' hv).2.2
  clear hv hb HB4 HV4 HW4 HT4
  go_wp2_with fail
  refine wp_region_noPanic ?_
  refine wp_region_held_drew (S := fun w' => Below w5.heap.size w5 w') (by kernel_rfl) (pw_below_drewN (Below.refl _ _) 1) (fun hHeld => ?_)
  have HS := Aside0.mk hHeld
  clear hHeld
  refine take_drop (i := 0) (v := ?_) rfl (by kernel_rfl) (by kernel_rfl) (by kernel_rfl) (fun _ _ _ h => h) (Or.inl ⟨by rfl, ?_⟩) HS.out ?_
  rotate_left
  · intro w_ hSw
    go_simp
    all_goals with_reducible rfl
  try simp only [Act.put, List.setIfInBounds_toArray, List.set_cons_zero, List.set_cons_succ]
  refine take_drop (i := 1) (v := ?_) rfl (by kernel_rfl) (by kernel_rfl) (by kernel_rfl) (fun _ _ _ h => h) (Or.inl ⟨by rfl, ?_⟩) HS.out ?_
  rotate_left
  · intro w_ hSw
    go_simp
    all_goals with_reducible rfl
  try simp only [Act.put, List.setIfInBounds_toArray, List.set_cons_zero, List.set_cons_succ]
  refine take_drop (i := 2) (v := ?_) rfl (by kernel_rfl) (by kernel_rfl) (by kernel_rfl) (fun _ _ _ h => h) (Or.inl ⟨by rfl, ?_⟩) HS.out ?_
  rotate_left
  · intro w_ hSw
    go_simp
    all_goals with_reducible rfl
  try simp only [Act.put, List.setIfInBounds_toArray, List.set_cons_zero, List.set_cons_succ]
  refine take_drop (i := 5) (v := ?_) rfl (by kernel_rfl) (by kernel_rfl) (by kernel_rfl) (fun _ _ _ h => h) (Or.inl ⟨by rfl, ?_⟩) HS.out ?_
  rotate_left
  · intro w_ hSw
    go_simp
    all_goals with_reducible rfl
  try simp only [Act.put, List.setIfInBounds_toArray, List.set_cons_zero, List.set_cons_succ]
  refine wpAnyH_ready (rs := [3]) (by kernel_rfl) (by simp) ?_
  refine cons_drop (i := 3) rfl (fun K hK => ?_) AllReadyH.nil
  go_simp
  refine (frame_Put.calls A0 c0 l0 b _ (Kd.C_below HR0.out (HB5.out.trans (HS.out.mono HB5.out.size))) hc0 HF.out.put).mono ?_
  rintro e w6 ⟨v6, rfl, hv, hb⟩
  have HN := Aside0.mk (HS.out.trans (hb.mono HS.out.size))
  have HM := Aside0.mk (show ∀ w_, Below w6.heap.size w6 w_ → Below w5.heap.size w5 w_ from fun w_ h_ => HN.out.trans (h_.mono HN.out.size))
  have HX := Aside0.mk (Below.refl w6.heap.size w6)
  have HB6 := Aside0.mk (HB5.out.trans (HN.out.mono HB5.out.size))
  have HV6 := Aside0.mk (Kd.V_below HV5.out HN.out)
  have HW6 := Aside0.mk (Kd.V_below HW5.out HN.out)
  have HT6 := Aside0.mk (Kd.C_below HT5.out HN.out)
  have HU6 := Aside0.mk (Kd.C_below HU5.out HN.out)
  obtain ⟨A6, c6, rfl⟩ := Kd.R_slice hv
  have HP6 := Aside0.mk (show Kd.V (Kd.int .u8) 5 w6 0 (fun _ => True) (.slice A6 b.length c6) b from Kd.R_V hv)
  clear hb hv HB5 HV5 HW5 HT5 HU5
  go_wp2_with fail
  refine hK.out _ _ (HN.out) (fun hHeld => ?_)
  clear hK K
  try simp only [Act.put, List.setIfInBounds_toArray, List.set_cons_zero, List.set_cons_succ]
  refine wpAnyH_strong HM.out _ _ _ _ ?_
  clear HS HN HM hHeld
  have HS := HX
  clear HX
  refine take_drop (i := 4) (v := ?_) rfl (by kernel_rfl) (by kernel_rfl) (by kernel_rfl) (fun _ _ _ h => h) (Or.inl ⟨by rfl, ?_⟩) HS.out ?_
  rotate_left
  · intro w_ hSw
    have hcv := V_strB (P := Try.prog) (src := 23) (dst := 9) (e := 5) Try.underlying23 Try.underlying5 Try.underlying9 (Kd.V_below HP6.out hSw)
    go_simp
    all_goals with_reducible rfl
  try simp only [Act.put, List.setIfInBounds_toArray, List.set_cons_zero, List.set_cons_succ]
  refine wpAnyH_ready (rs := [6]) (by kernel_rfl) (by simp) ?_
  refine cons_drop (i := 6) rfl (fun K hK => ?_) AllReadyH.nil
  go_simp
  refine (pentroughref13_Put.calls 2000 A0 c0 l0 b _ (Kd.C_below HR0.out (HB6.out.trans (HS.out.mono HB6.out.size))) hc0 HF.out.rput).mono ?_
  rintro e w7 ⟨v7, rfl, hv, hb⟩
  have HN := Aside0.mk (HS.out.trans (hb.mono HS.out.size))
  have HM := Aside0.mk (show ∀ w_, Below w7.heap.size w7 w_ → Below w6.heap.size w6 w_ from fun w_ h_ => HN.out.trans (h_.mono HN.out.size))
  have HX := Aside0.mk (Below.refl w7.heap.size w7)
  have HB7 := Aside0.mk (HB6.out.trans (HN.out.mono HB6.out.size))
  have HV7 := Aside0.mk (Kd.V_below HV6.out HN.out)
  have HW7 := Aside0.mk (Kd.V_below HW6.out HN.out)
  have HT7 := Aside0.mk (Kd.C_below HT6.out HN.out)
  have HU7 := Aside0.mk (Kd.C_below HU6.out HN.out)
  obtain ⟨A7, c7, rfl⟩ := Kd.R_slice hv
  have HP7 := Aside0.mk (show Kd.V (Kd.int .u8) 5 w7 0 (fun _ => True) (.slice A7 b.length c7) b from Kd.R_V hv)
  clear hb hv HB6 HV6 HW6 HT6 HU6
  go_wp2_with fail
  refine hK.out _ _ (HN.out) (fun hHeld => ?_)
  clear hK K
  try simp only [Act.put, List.setIfInBounds_toArray, List.set_cons_zero, List.set_cons_succ]
  refine wpAnyH_strong HM.out _ _ _ _ ?_
  clear HS HN HM hHeld
  have HS := HX
  clear HX
  refine take_drop (i := 7) (v := ?_) rfl (by kernel_rfl) (by kernel_rfl) (by kernel_rfl) (fun _ _ _ h => h) (Or.inl ⟨by rfl, ?_⟩) HS.out ?_
  rotate_left
  · intro w_ hSw
    have hcv := V_strB (P := Try.prog) (src := 23) (dst := 9) (e := 5) Try.underlying23 Try.underlying5 Try.underlying9 (Kd.V_below HP7.out hSw)
    go_simp
    all_goals with_reducible rfl
  try simp only [Act.put, List.setIfInBounds_toArray, List.set_cons_zero, List.set_cons_succ]
  refine take_drop (i := 8) (v := ?_) rfl (by kernel_rfl) (by kernel_rfl) (by kernel_rfl) (fun _ _ _ h => h) (Or.inl ⟨by rfl, ?_⟩) HS.out ?_
  rotate_left
  · intro w_ hSw
    go_simp
    all_goals with_reducible rfl
  try simp only [Act.put, List.setIfInBounds_toArray, List.set_cons_zero, List.set_cons_succ]
  refine take_drop (i := 9) (v := ?_) rfl (by kernel_rfl) (by kernel_rfl) (by kernel_rfl) (fun _ _ _ h => h) (Or.inl ⟨by rfl, ?_⟩) HS.out ?_
  rotate_left
  · intro w_ hSw
    go_simp
    all_goals with_reducible rfl
  try simp only [Act.put, List.setIfInBounds_toArray, List.set_cons_zero, List.set_cons_succ]
  refine take_drop (i := 10) (v := ?_) rfl (by kernel_rfl) (by kernel_rfl) (by kernel_rfl) (fun _ _ _ h => h) (Or.inl ⟨by rfl, ?_⟩) HS.out ?_
  rotate_left
  · intro w_ hSw
    go_simp
    all_goals with_reducible rfl
  try simp only [Act.put, List.setIfInBounds_toArray, List.set_cons_zero, List.set_cons_succ]
  refine wpAnyH_ready (rs := [11]) (by kernel_rfl) (by simp) ?_
  refine cons_drop (i := 11) rfl (fun K hK => ?_) AllReadyH.nil
  go_simp
  refine (frame_Refusal.calls 20 [0] _ HG.out).mono ?_
  rintro e w8 ⟨v8, rfl, hv, hb⟩
  have HN := Aside0.mk (HS.out.trans (hb.mono HS.out.size))
  have HM := Aside0.mk (show ∀ w_, Below w8.heap.size w8 w_ → Below w7.heap.size w7 w_ from fun w_ h_ => HN.out.trans (h_.mono HN.out.size))
  have HX := Aside0.mk (Below.refl w8.heap.size w8)
  have HB8 := Aside0.mk (HB7.out.trans (HN.out.mono HB7.out.size))
  have HV8 := Aside0.mk (Kd.V_below HV7.out HN.out)
  have HW8 := Aside0.mk (Kd.V_below HW7.out HN.out)
  have HT8 := Aside0.mk (Kd.C_below HT7.out HN.out)
  have HU8 := Aside0.mk (Kd.C_below HU7.out HN.out)
  obtain ⟨A8, c8, rfl⟩ := Kd.R_slice hv
  have HP8 := Aside0.mk (show Kd.V (Kd.int .u8) 5 w8 0 (fun _ => True) (.slice A8 1 c8) [0] from Kd.R_V hv)
  clear hb hv HB7 HV7 HW7 HT7 HU7
  go_wp2_with fail
  refine hK.out _ _ (HN.out) (fun hHeld => ?_)
  clear hK K
  try simp only [Act.put, List.setIfInBounds_toArray, List.set_cons_zero, List.set_cons_succ]
  refine wpAnyH_strong HM.out _ _ _ _ ?_
  clear HS HN HM hHeld
  have HS := HX
  clear HX
  refine take_drop (i := 12) (v := ?_) rfl (by kernel_rfl) (by kernel_rfl) (by kernel_rfl) (fun _ _ _ h => h) (Or.inl ⟨by rfl, ?_⟩) HS.out ?_
  rotate_left
  · intro w_ hSw
    have hcv := V_strB (P := Try.prog) (src := 23) (dst := 9) (e := 5) Try.underlying23 Try.underlying5 Try.underlying9 (Kd.V_below HP8.out hSw)
    go_simp
    all_goals with_reducible rfl
  try simp only [Act.put, List.setIfInBounds_toArray, List.set_cons_zero, List.set_cons_succ]
  refine wpAnyH_ready (rs := [13]) (by kernel_rfl) (by simp) ?_
  refine cons_drop (i := 13) rfl (fun K hK => ?_) AllReadyH.nil
  go_simp
  refine (pentroughref13_Refusal.calls [0] _ HH.out).mono ?_
  rintro e w9 ⟨v9, rfl, hv, hb⟩
  have HN := Aside0.mk (HS.out.trans (hb.mono HS.out.size))
  have HM := Aside0.mk (show ∀ w_, Below w9.heap.size w9 w_ → Below w8.heap.size w8 w_ from fun w_ h_ => HN.out.trans (h_.mono HN.out.size))
  have HX := Aside0.mk (Below.refl w9.heap.size w9)
  have HB9 := Aside0.mk (HB8.out.trans (HN.out.mono HB8.out.size))
  have HV9 := Aside0.mk (Kd.V_below HV8.out HN.out)
  have HW9 := Aside0.mk (Kd.V_below HW8.out HN.out)
  have HT9 := Aside0.mk (Kd.C_below HT8.out HN.out)
  have HU9 := Aside0.mk (Kd.C_below HU8.out HN.out)
  obtain ⟨A9, c9, rfl⟩ := Kd.R_slice hv
  have HP9 := Aside0.mk (show Kd.V (Kd.int .u8) 5 w9 0 (fun _ => True) (.slice A9 1 c9) [0] from Kd.R_V hv)
  clear hb hv HB8 HV8 HW8 HT8 HU8
  go_wp2_with fail
  refine hK.out _ _ (HN.out) (fun hHeld => ?_)
  clear hK K
  try simp only [Act.put, List.setIfInBounds_toArray, List.set_cons_zero, List.set_cons_succ]
  refine wpAnyH_strong HM.out _ _ _ _ ?_
  clear HS HN HM hHeld
  have HS := HX
  clear HX
  refine take_drop (i := 14) (v := ?_) rfl (by kernel_rfl) (by kernel_rfl) (by kernel_rfl) (fun _ _ _ h => h) (Or.inl ⟨by rfl, ?_⟩) HS.out ?_
  rotate_left
  · intro w_ hSw
    have hcv := V_strB (P := Try.prog) (src := 23) (dst := 9) (e := 5) Try.underlying23 Try.underlying5 Try.underlying9 (Kd.V_below HP9.out hSw)
    go_simp
    all_goals with_reducible rfl
  try simp only [Act.put, List.setIfInBounds_toArray, List.set_cons_zero, List.set_cons_succ]
  refine take_drop (i := 15) (v := ?_) rfl (by kernel_rfl) (by kernel_rfl) (by kernel_rfl) (fun _ _ _ h => h) (Or.inl ⟨by rfl, ?_⟩) HS.out ?_
  rotate_left
  · intro w_ hSw
    go_simp
    all_goals with_reducible rfl
  try simp only [Act.put, List.setIfInBounds_toArray, List.set_cons_zero, List.set_cons_succ]
  refine take_drop (i := 16) (v := ?_) rfl (by kernel_rfl) (by kernel_rfl) (by kernel_rfl) (fun _ _ _ h => h) (Or.inl ⟨by rfl, ?_⟩) HS.out ?_
  rotate_left
  · intro w_ hSw
    go_simp
    all_goals with_reducible rfl
  try simp only [Act.put, List.setIfInBounds_toArray, List.set_cons_zero, List.set_cons_succ]
  refine take_drop (i := 17) (v := ?_) rfl (by kernel_rfl) (by kernel_rfl) (by kernel_rfl) (fun _ _ _ h => h) (Or.inl ⟨by rfl, ?_⟩) HS.out ?_
  rotate_left
  · intro w_ hSw
    go_simp
    all_goals with_reducible rfl
  try simp only [Act.put, List.setIfInBounds_toArray, List.set_cons_zero, List.set_cons_succ]
  refine take_drop (i := 18) (v := ?_) rfl (by kernel_rfl) (by kernel_rfl) (by kernel_rfl) (fun _ _ _ h => h) (Or.inl ⟨by rfl, ?_⟩) HS.out ?_
  rotate_left
  · intro w_ hSw
    go_simp
    all_goals with_reducible rfl
  try simp only [Act.put, List.setIfInBounds_toArray, List.set_cons_zero, List.set_cons_succ]
  refine take_drop (i := 19) (v := ?_) rfl (by kernel_rfl) (by kernel_rfl) (by kernel_rfl) (fun _ _ _ h => h) (Or.inl ⟨by rfl, ?_⟩) HS.out ?_
  rotate_left
  · intro w_ hSw
    have hcv := V_strB (P := Try.prog) (src := 23) (dst := 9) (e := 5) Try.underlying23 Try.underlying5 Try.underlying9 (Kd.V_below HV9.out hSw)
    go_simp
    all_goals with_reducible rfl
  try simp only [Act.put, List.setIfInBounds_toArray, List.set_cons_zero, List.set_cons_succ]
  refine take_drop (i := 20) (v := ?_) rfl (by kernel_rfl) (by kernel_rfl) (by kernel_rfl) (fun _ _ _ h => h) (Or.inl ⟨by rfl, ?_⟩) HS.out ?_
  rotate_left
  · intro w_ hSw
    go_simp
    all_goals with_reducible rfl
  try simp only [Act.put, List.setIfInBounds_toArray, List.set_cons_zero, List.set_cons_succ]
  refine take_drop (i := 21) (v := ?_) rfl (by kernel_rfl) (by kernel_rfl) (by kernel_rfl) (fun _ _ _ h => h) (Or.inl ⟨by rfl, ?_⟩) HS.out ?_
  rotate_left
  · intro w_ hSw
    have hcv := V_strB (P := Try.prog) (src := 23) (dst := 9) (e := 5) Try.underlying23 Try.underlying5 Try.underlying9 (Kd.V_below HW9.out hSw)
    go_simp
    all_goals with_reducible rfl
  try simp only [Act.put, List.setIfInBounds_toArray, List.set_cons_zero, List.set_cons_succ]
  refine take_drop (i := 22) (v := ?_) rfl (by kernel_rfl) (by kernel_rfl) (by kernel_rfl) (fun _ _ _ h => h) (Or.inl ⟨by rfl, ?_⟩) HS.out ?_
  rotate_left
  · intro w_ hSw
    go_simp
    all_goals with_reducible rfl
  try simp only [Act.put, List.setIfInBounds_toArray, List.set_cons_zero, List.set_cons_succ]
  refine take_drop (i := 23) (v := ?_) rfl (by kernel_rfl) (by kernel_rfl) (by kernel_rfl) (fun _ _ _ h => h) (Or.inl ⟨by rfl, ?_⟩) HS.out ?_
  rotate_left
  · intro w_ hSw
    go_simp
    all_goals with_reducible rfl
  try simp only [Act.put, List.setIfInBounds_toArray, List.set_cons_zero, List.set_cons_succ]
  refine take_drop (i := 24) (v := ?_) rfl (by kernel_rfl) (by kernel_rfl) (by kernel_rfl) (fun _ _ _ h => h) (Or.inl ⟨by rfl, ?_⟩) HS.out ?_
  rotate_left
  · intro w_ hSw
    go_simp
    all_goals with_reducible rfl
  try simp only [Act.put, List.setIfInBounds_toArray, List.set_cons_zero, List.set_cons_succ]
  refine take_drop (i := 25) (v := ?_) rfl (by kernel_rfl) (by kernel_rfl) (by kernel_rfl) (fun _ _ _ h => h) (Or.inl ⟨by rfl, ?_⟩) HS.out ?_
  rotate_left
  · intro w_ hSw
    go_simp
    all_goals with_reducible rfl
  try simp only [Act.put, List.setIfInBounds_toArray, List.set_cons_zero, List.set_cons_succ]
  refine take_drop (i := 26) (v := ?_) rfl (by kernel_rfl) (by kernel_rfl) (by kernel_rfl) (fun _ _ _ h => h) (Or.inl ⟨by rfl, ?_⟩) HS.out ?_
  rotate_left
  · intro w_ hSw
    go_simp
    all_goals with_reducible rfl
  try simp only [Act.put, List.setIfInBounds_toArray, List.set_cons_zero, List.set_cons_succ]
  refine take_drop (i := 27) (v := ?_) rfl (by kernel_rfl) (by kernel_rfl) (by kernel_rfl) (fun _ _ _ h => h) (Or.inl ⟨by rfl, ?_⟩) HS.out ?_
  rotate_left
  · intro w_ hSw
    go_simp
    all_goals with_reducible rfl
  try simp only [Act.put, List.setIfInBounds_toArray, List.set_cons_zero, List.set_cons_succ]
  refine take_drop (i := 28) (v := ?_) rfl (by kernel_rfl) (by kernel_rfl) (by kernel_rfl) (fun _ _ _ h => h) (Or.inl ⟨by rfl, ?_⟩) HS.out ?_
  rotate_left
  · intro w_ hSw
    go_simp
    all_goals with_reducible rfl
  try simp only [Act.put, List.setIfInBounds_toArray, List.set_cons_zero, List.set_cons_succ]
  refine take_drop (i := 29) (v := ?_) rfl (by kernel_rfl) (by kernel_rfl) (by kernel_rfl) (fun _ _ _ h => h) (Or.inl ⟨by rfl, ?_⟩) HS.out ?_
  rotate_left
  · intro w_ hSw
    go_simp
    all_goals with_reducible rfl
  try simp only [Act.put, List.setIfInBounds_toArray, List.set_cons_zero, List.set_cons_succ]
  refine take_drop (i := 30) (v := ?_) rfl (by kernel_rfl) (by kernel_rfl) (by kernel_rfl) (fun _ _ _ h => h) (Or.inl ⟨by rfl, ?_⟩) HS.out ?_
  rotate_left
  · intro w_ hSw
    go_simp
    all_goals with_reducible rfl
  try simp only [Act.put, List.setIfInBounds_toArray, List.set_cons_zero, List.set_cons_succ]
  refine take_drop (i := 31) (v := ?_) rfl (by kernel_rfl) (by kernel_rfl) (by kernel_rfl) (fun _ _ _ h => h) (Or.inl ⟨by rfl, ?_⟩) HS.out ?_
  rotate_left
  · intro w_ hSw
    go_simp
    all_goals with_reducible rfl
  try simp only [Act.put, List.setIfInBounds_toArray, List.set_cons_zero, List.set_cons_succ]
  refine take_drop (i := 32) (v := ?_) rfl (by kernel_rfl) (by kernel_rfl) (by kernel_rfl) (fun _ _ _ h => h) (Or.inl ⟨by rfl, ?_⟩) HS.out ?_
  rotate_left
  · intro w_ hSw
    go_simp
    all_goals with_reducible rfl
  try simp only [Act.put, List.setIfInBounds_toArray, List.set_cons_zero, List.set_cons_succ]
  refine take_drop (i := 33) (v := ?_) rfl (by kernel_rfl) (by kernel_rfl) (by kernel_rfl) (fun _ _ _ h => h) (Or.inl ⟨by rfl, ?_⟩) HS.out ?_
  rotate_left
  · intro w_ hSw
    go_simp
    all_goals with_reducible rfl
  try simp only [Act.put, List.setIfInBounds_toArray, List.set_cons_zero, List.set_cons_succ]
  refine take_drop (i := 34) (v := ?_) rfl (by kernel_rfl) (by kernel_rfl) (by kernel_rfl) (fun _ _ _ h => h) (Or.inl ⟨by rfl, ?_⟩) HS.out ?_
  rotate_left
  · intro w_ hSw
    go_simp
    all_goals with_reducible rfl
  try simp only [Act.put, List.setIfInBounds_toArray, List.set_cons_zero, List.set_cons_succ]
  refine take_drop (i := 35) (v := ?_) rfl (by kernel_rfl) (by kernel_rfl) (by kernel_rfl) (fun _ _ _ h => h) (Or.inl ⟨by rfl, ?_⟩) HS.out ?_
  rotate_left
  · intro w_ hSw
    go_simp
    all_goals with_reducible rfl
  try simp only [Act.put, List.setIfInBounds_toArray, List.set_cons_zero, List.set_cons_succ]
  refine take_drop (i := 36) (v := ?_) rfl (by kernel_rfl) (by kernel_rfl) (by kernel_rfl) (fun _ _ _ h => h) (Or.inl ⟨by rfl, ?_⟩) HS.out ?_
  rotate_left
  · intro w_ hSw
    go_simp
    all_goals with_reducible rfl
  try simp only [Act.put, List.setIfInBounds_toArray, List.set_cons_zero, List.set_cons_succ]
  refine wpAnyH_ready (rs := [37]) (by kernel_rfl) (by simp) ?_
  refine cons_drop (i := 37) rfl (fun K hK => ?_) AllReadyH.nil
  go_simp
  refine (pentroughref13_Texts.calls 2000 A4 c4 T A5 c5 T true _ (Kd.C_below HT9.out HS.out) hc4 (Kd.C_below HU9.out HS.out) hc5 HF.out.tx).mono ?_
  rintro e w10 ⟨rfl, hd⟩
  have hb := hd.below
  have HN := Aside0.mk (HS.out.trans (hb.mono HS.out.size))
  have HM := Aside0.mk (show ∀ w_, Below w10.heap.size w10 w_ → Below w9.heap.size w9 w_ from fun w_ h_ => HN.out.trans (h_.mono HN.out.size))
  have HX := Aside0.mk (Below.refl w10.heap.size w10)
  have HB10 := Aside0.mk (HB9.out.trans (HN.out.mono HB9.out.size))
  clear hb hd HB9 
  go_wp2_with fail
  refine hK.out _ _ (HN.out) (fun hHeld => ?_)
  clear hK K
  try simp only [Act.put, List.setIfInBounds_toArray, List.set_cons_zero, List.set_cons_succ]
  refine wpAnyH_strong HM.out _ _ _ _ ?_
  clear HS HN HM hHeld
  have HS := HX
  clear HX
  refine take_drop (i := 38) (v := ?_) rfl (by kernel_rfl) (by kernel_rfl) (by kernel_rfl) (fun _ _ _ h => h) (Or.inl ⟨by rfl, ?_⟩) HS.out ?_
  rotate_left
  · intro w_ hSw
    go_simp
    all_goals with_reducible rfl
  try simp only [Act.put, List.setIfInBounds_toArray, List.set_cons_zero, List.set_cons_succ]
  refine take_drop (i := 39) (v := ?_) rfl (by kernel_rfl) (by kernel_rfl) (by kernel_rfl) (fun _ _ _ h => h) (Or.inl ⟨by rfl, ?_⟩) HS.out ?_
  rotate_left
  · intro w_ hSw
    go_simp
    all_goals with_reducible rfl
  try simp only [Act.put, List.setIfInBounds_toArray, List.set_cons_zero, List.set_cons_succ]
  refine take_drop (i := 40) (v := ?_) rfl (by kernel_rfl) (by kernel_rfl) (by kernel_rfl) (fun _ _ _ h => h) (Or.inl ⟨by rfl, ?_⟩) HS.out ?_
  rotate_left
  · intro w_ hSw
    go_simp
    all_goals with_reducible rfl
  try simp only [Act.put, List.setIfInBounds_toArray, List.set_cons_zero, List.set_cons_succ]
  refine take_drop (i := 41) (v := ?_) rfl (by kernel_rfl) (by kernel_rfl) (by kernel_rfl) (fun _ _ _ h => h) (Or.inl ⟨by rfl, ?_⟩) HS.out ?_
  rotate_left
  · intro w_ hSw
    go_simp
    all_goals with_reducible rfl
  try simp only [Act.put, List.setIfInBounds_toArray, List.set_cons_zero, List.set_cons_succ]
  refine take_drop (i := 42) (v := ?_) rfl (by kernel_rfl) (by kernel_rfl) (by kernel_rfl) (fun _ _ _ h => h) (Or.inl ⟨by rfl, ?_⟩) HS.out ?_
  rotate_left
  · intro w_ hSw
    go_simp
    all_goals with_reducible rfl
  try simp only [Act.put, List.setIfInBounds_toArray, List.set_cons_zero, List.set_cons_succ]
  refine take_drop (i := 43) (v := ?_) rfl (by kernel_rfl) (by kernel_rfl) (by kernel_rfl) (fun _ _ _ h => h) (Or.inl ⟨by rfl, ?_⟩) HS.out ?_
  rotate_left
  · intro w_ hSw
    go_simp
    all_goals with_reducible rfl
  try simp only [Act.put, List.setIfInBounds_toArray, List.set_cons_zero, List.set_cons_succ]
  refine take_drop (i := 44) (v := ?_) rfl (by kernel_rfl) (by kernel_rfl) (by kernel_rfl) (fun _ _ _ h => h) (Or.inl ⟨by rfl, ?_⟩) HS.out ?_
  rotate_left
  · intro w_ hSw
    go_simp
    all_goals with_reducible rfl
  try simp only [Act.put, List.setIfInBounds_toArray, List.set_cons_zero, List.set_cons_succ]
  refine take_drop (i := 45) (v := ?_) rfl (by kernel_rfl) (by kernel_rfl) (by kernel_rfl) (fun _ _ _ h => h) (Or.inl ⟨by rfl, ?_⟩) HS.out ?_
  rotate_left
  · intro w_ hSw
    go_simp
    all_goals with_reducible rfl
  try simp only [Act.put, List.setIfInBounds_toArray, List.set_cons_zero, List.set_cons_succ]
  refine take_drop (i := 46) (v := ?_) rfl (by kernel_rfl) (by kernel_rfl) (by kernel_rfl) (fun _ _ _ h => h) (Or.inl ⟨by rfl, ?_⟩) HS.out ?_
  rotate_left
  · intro w_ hSw
    go_simp
    all_goals with_reducible rfl
  try simp only [Act.put, List.setIfInBounds_toArray, List.set_cons_zero, List.set_cons_succ]
  refine take_drop (i := 47) (v := ?_) rfl (by kernel_rfl) (by kernel_rfl) (by kernel_rfl) (fun _ _ _ h => h) (Or.inl ⟨by rfl, ?_⟩) HS.out ?_
  rotate_left
  · intro w_ hSw
    go_simp
    all_goals with_reducible rfl
  try simp only [Act.put, List.setIfInBounds_toArray, List.set_cons_zero, List.set_cons_succ]
  refine take_drop (i := 48) (v := ?_) rfl (by kernel_rfl) (by kernel_rfl) (by kernel_rfl) (fun _ _ _ h => h) (Or.inl ⟨by rfl, ?_⟩) HS.out ?_
  rotate_left
  · intro w_ hSw
    go_simp
    all_goals with_reducible rfl
  try simp only [Act.put, List.setIfInBounds_toArray, List.set_cons_zero, List.set_cons_succ]
  refine take_drop (i := 49) (v := ?_) rfl (by kernel_rfl) (by kernel_rfl) (by kernel_rfl) (fun _ _ _ h => h) (Or.inl ⟨by rfl, ?_⟩) HS.out ?_
  rotate_left
  · intro w_ hSw
    go_simp
    all_goals with_reducible rfl
  try simp only [Act.put, List.setIfInBounds_toArray, List.set_cons_zero, List.set_cons_succ]
  refine wpAnyH_done (by kernel_rfl) ?_ _
  refine NoPanic.normal ?_
  have HE := Aside0.mk (HB10.out.trans (HS.out.mono HB10.out.size))
  clear HS HB10
  go_wp2
  go_ret
  exact ⟨rfl, HE.out⟩
end Go.Proofs.Ytcabijajjceghaa.G
