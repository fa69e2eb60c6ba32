/- The row of SegIs, by hand (its first parameter is a struct within a struct), out of the walk and the plain law. No condition. -/
import Derived.Test.YtcabijajjceghaaRows
import Derived.WalkKit
import Derived.ProofKit
import Derived.OpenShut
import Derived.ShutString
import Derived.ChangeOld
import Derived.Below
import Derived.SizedLaws
import Derived.Lib.SmallJoins
import Derived.Test.YtcabijajjceghaaSeg
import Derived.Test.YtcabijajjceghaaHAll
import Derived.Test.YtcabijajjceghaaG13
import Derived.RegionTactic
import Derived.Deep.RegionHeld3
import Derived.Deep.DrawnRows
import Derived.Test.YtcabijajjceghaaHFeedR
import Derived.Test.YtcabijajjceghaaG30
import Derived.Test.YtcabijajjceghaaG16
import Derived.Test.YtcabijajjceghaaG21
import Derived.Test.YtcabijajjceghaaG22
import Derived.Test.YtcabijajjceghaaG26
namespace Go.Proofs.Ytcabijajjceghaa.G
open Go.RowKit Go.Proofs.YtcabijajjceghaaW.PrintWords Go.Proofs.YtcabijajjceghaaW.PrintLast Go.Proofs.YtcabijajjceghaaW.PrintMore
set_option linter.unusedVariables false
set_option linter.unusedSimpArgs false

theorem sane_nextK_fin : ∀ g : Fin 15, ∀ p o : Bool, ∀ q : Bool, saneC ⟨true, (g.val : Int), if (g.val : Int) = 14 then true else if (g.val : Int) = 4 ∨ (g.val : Int) = 5 then p && q else false, if (g.val : Int) = 6 then o else false⟩ = true := by decide +kernel
theorem sane_nextK (s : CS) (g : Int) (h0 : 0 ≤ g) (h1 : g ≤ 14) : saneC (nextK s g) = true := by
  have := sane_nextK_fin ⟨g.toNat, by omega⟩ (if saneC s then s else c0).pict (!(if saneC s then s else c0).odd) ((if saneC s then s else c0).kind != 5)
  simp only [Int.toNat_of_nonneg h0] at this
  exact this
theorem sane_nextS (s : CS) (r : Int) : saneC (nextS s r) = true := sane_nextK s _ (gcb_range r).1 (gcb_range r).2
theorem next_on (s : CS) (r : Int) : (nextS s r).on = true := rfl
theorem saneG_c0 : saneG [] c0 = true := by decide
theorem saneG_one (s : CS) (r : Int) : saneG [r] (nextS s r) = true := by simp [saneG, sane_nextS, next_on]
theorem saneG_more (C : List Int) (s : CS) (r : Int) (h : saneG C s = true) (hf : fullP C.length s r = false) : saneG (C ++ [r]) (nextS s r) = true := by
  have h1 : C.length ≤ 32 := by
    simp only [saneG, Bool.and_eq_true, decide_eq_true_eq] at h
    exact h.1
  have h2 : (C ++ [r]).length ≤ 32 := by
    rw [List.length_append]
    simp only [fullP, Bool.and_eq_false_iff, Bool.or_eq_false_iff, decide_eq_false_iff_not] at hf
    simp only [List.length_cons, List.length_nil]
    omega
  unfold saneG
  rw [decide_eq_true h2, sane_nextS, next_on]
  simp
/-- One step, of a state that is sane. -/
theorem allP_cons (C : List Int) (s : CS) (r : Int) (t : List Int) (h : saneG C s = true) : allP C s (r :: t) = if fullP C.length s r = true then C :: allP [r] (nextS s r) t else allP (C ++ [r]) (nextS s r) t := by
  rw [allP]
  unfold feedP
  rw [if_pos h]
  by_cases hf : fullP C.length s r = true
  · have hne : C ≠ [] := by intro e; subst e; simp [fullP] at hf
    simp [hf, hne]
  · simp [hf]
theorem join_allP (l : List Int) : ∀ C s, saneG C s = true → (allP C s l).flatten = C ++ l := by
  induction l with
  | nil => intro C s _; unfold allP; by_cases h : C = [] <;> simp [h]
  | cons r t ih =>
    intro C s h
    rw [allP_cons C s r t h]
    by_cases hf : fullP C.length s r = true
    · rw [if_pos hf, List.flatten_cons, ih _ _ (saneG_one s r)]; simp
    · rw [if_neg hf, ih _ _ (saneG_more C s r h (by simpa using hf))]; simp
theorem len_allP (l : List Int) : ∀ C s, saneG C s = true → ∀ x ∈ allP C s l, 1 ≤ x.length ∧ x.length ≤ 32 := by
  have hC : ∀ (C : List Int) (s : CS), saneG C s = true → C ≠ [] → 1 ≤ C.length ∧ C.length ≤ 32 := by
    intro C s h hne
    simp only [saneG, Bool.and_eq_true, decide_eq_true_eq] at h
    exact ⟨List.length_pos_iff.2 hne, h.1⟩
  induction l with
  | nil =>
    intro C s h x hx
    unfold allP at hx
    by_cases hc : C = []
    · simp [hc] at hx
    · simp [hc] at hx; subst hx; exact hC _ _ h hc
  | cons r t ih =>
    intro C s h x hx
    rw [allP_cons C s r t h] at hx
    by_cases hf : fullP C.length s r = true
    · rw [if_pos hf] at hx
      have hne : C ≠ [] := by intro e; subst e; simp [fullP] at hf
      rcases List.mem_cons.1 hx with rfl | hx
      · exact hC _ _ h hne
      · exact ih _ _ (saneG_one s r) x hx
    · rw [if_neg hf] at hx
      exact ih _ _ (saneG_more C s r h (by simpa using hf)) x hx
theorem count_le (L : List (List Int)) (h : ∀ x ∈ L, 1 ≤ x.length) : L.length ≤ L.flatten.length := by
  induction L with
  | nil => simp
  | cons a L ih =>
    have h1 := h a (by simp)
    have h2 := ih (fun x hx => h x (by simp [hx]))
    rw [List.flatten_cons, List.length_append, List.length_cons]
    omega
theorem count_allP (l : List Int) : (allP [] c0 l).length ≤ l.length := by
  have := count_le _ (fun x hx => (len_allP l [] c0 saneG_c0 x hx).1)
  rwa [join_allP l [] c0 saneG_c0, List.nil_append] at this
/-- The first cluster, and what is behind it. -/
theorem head_allP (l : List Int) : ∀ C s, saneG C s = true → C ≠ [] → ∃ m, m ≤ l.length ∧ C.length + m ≤ 32 ∧ (∀ j, j < m → (cuts s l)[j]? = some false) ∧
    ((m = l.length ∧ allP C s l = [C ++ l]) ∨ ∃ x t s', l.drop m = x :: t ∧ ((cuts s l)[m]? = some true ∨ C.length + m = 32) ∧ (cuts s l).drop (m + 1) = cuts s' t ∧ saneG [x] s' = true ∧ allP C s l = (C ++ l.take m) :: allP [x] s' t) := by
  induction l with
  | nil =>
    intro C s h hne
    simp only [saneG, Bool.and_eq_true, decide_eq_true_eq] at h
    exact ⟨0, by simp, by omega, fun j hj => by omega, .inl ⟨rfl, by unfold allP; simp [hne]⟩⟩
  | cons r t ih =>
    intro C s h hne
    have hcons : cuts s (r :: t) = endsS s r :: cuts (nextS s r) t := rfl
    rw [allP_cons C s r t h, hcons]
    have hl : C.length ≤ 32 := by
      simp only [saneG, Bool.and_eq_true, decide_eq_true_eq] at h
      exact h.1
    have hp : 0 < C.length := List.length_pos_iff.2 hne
    by_cases hf : fullP C.length s r = true
    · rw [if_pos hf]
      refine ⟨0, by simp, by omega, fun j hj => by omega, .inr ⟨r, t, nextS s r, rfl, ?_, by simp, saneG_one s r, by simp⟩⟩
      simp only [fullP, Bool.and_eq_true, Bool.or_eq_true, decide_eq_true_eq] at hf
      rcases hf.2 with h1 | h1
      · exact .inr (by omega)
      · exact .inl (by simp [h1])
    · rw [if_neg hf]
      have hf' : fullP C.length s r = false := by simpa using hf
      obtain ⟨m, h1, h2, h3, h4⟩ := ih (C ++ [r]) (nextS s r) (saneG_more C s r h hf') (by simp)
      have hnc : endsS s r = false := by
        simp only [fullP, Bool.and_eq_false_iff, Bool.or_eq_false_iff, decide_eq_false_iff_not] at hf'
        rcases hf' with h5 | h5
        · omega
        · exact h5.2
      refine ⟨m + 1, by simpa using h1, by simp at h2; omega, fun j hj => ?_, ?_⟩
      · cases j with
        | zero => simp [hnc]
        | succ j => simpa using h3 j (by omega)
      · rcases h4 with ⟨h5, h6⟩ | ⟨x, t', s', h5, h6, h7, h8, h9⟩
        · exact .inl ⟨by simp [h5], by rw [h6]; simp⟩
        · refine .inr ⟨x, t', s', by simpa using h5, ?_, by simpa using h7, h8, by rw [h9]; simp⟩
          rcases h6 with h6 | h6
          · exact .inl (by simpa using h6)
          · exact .inr (by simp at h6; omega)

theorem same01_loop (a : List Int) (hl : a.length < 140737488355328) : ∀ (d i k : Nat), a.length = i + d → d < k → pentroughref01_Same.l0 k a a (i : Int) = some true := by
  intro d
  induction d with
  | zero =>
    intro i k hi hk
    obtain ⟨k, rfl⟩ : ∃ m, k = m + 1 := ⟨k - 1, by omega⟩
    simp only [pentroughref01_Same.l0]
    rw [if_neg (by omega)]
  | succ d ih =>
    intro i k hi hk
    obtain ⟨k, rfl⟩ : ∃ m, k = m + 1 := ⟨k - 1, by omega⟩
    have hw : wrap64 ((i : Int) + 1) = ((i + 1 : Nat) : Int) := by unfold wrap64; omega
    simp only [pentroughref01_Same.l0]
    rw [if_pos (by omega), if_pos (by omega), if_pos (by omega), hw]
    simp only [if_true]
    exact ih (i + 1) k (by omega) (by omega)
theorem same01 (a : List Int) (k : Nat) (hl : a.length < 140737488355328) (hk : a.length < k) : pentroughref01_Same.f k a a = some true := by
  unfold pentroughref01_Same.f
  rw [if_pos rfl]
  exact same01_loop a hl a.length 0 k (by omega) hk
end Go.Proofs.Ytcabijajjceghaa.G

namespace Go.Proofs.Ytcabijajjceghaa.G
open Go.RowKit Go.Proofs.YtcabijajjceghaaW.PrintWords Go.Proofs.YtcabijajjceghaaW.PrintLast Go.Proofs.YtcabijajjceghaaW.PrintMore
set_option linter.unusedVariables false
set_option linter.unusedSimpArgs false

section
variable {P : Program} {L : List Oper} {Q : Exit → Act → World → Prop} {md : Region.Mode} {S S' : World → Prop}
/-- A stronger condition serves from here on. -/
theorem wpAnyH_strong {ops : Array Oper} (hS : ∀ w, S' w → S w) : ∀ (fuel : Nat) (listed : Array Bool) (a : Act) (w : World), wpAnyH P md ops Q S' fuel listed a w → wpAnyH P md ops Q S fuel listed a w
  | 0, _, _, _, h => h
  | fuel + 1, _, _, _, h => ⟨h.1, fun i hi => wpOp_mono (fun a' w' h' => ⟨hS _ h'.1, wpAnyH_strong hS fuel _ a' w' h'.2⟩) (h.2 i hi)⟩
theorem at_drop {i : Nat} {oi : Oper} {rest : List Oper} (h : L.drop i = oi :: rest) : (L.toArray)[i]? = some oi := by
  rw [List.getElem?_toArray, ← List.head?_drop, h]
  rfl
theorem take_drop {i : Nat} {oi : Oper} {rest : List Oper} {v : Value} {fuel : Nat} {listed : Array Bool} {a : Act} {w : World} (h : L.drop i = oi :: rest)
    (hs : Region.noSelect L.toArray = true) (hf : Region.free md L.toArray listed i = true) (hr : (Region.ready md L.toArray listed).contains i = true)
    (hQ : ∀ c a w, Q (.panic c) (a.put oi.dst v) w → Q (.panic c) a w) (hy : YieldsIf P L.toArray S oi v a) (hS : S w)
    (k : wpAnyH P md L.toArray Q S fuel (listed.setIfInBounds i true) (a.put oi.dst v) w) : wpAnyH P md L.toArray Q S (fuel + 1) listed a w :=
  wpAnyH_take (at_drop h) hs hf hr hQ hy hS k
theorem cons_drop {fuel : Nat} {listed : Array Bool} {a : Act} {w : World} {i : Nat} {o : Oper} {rest : List Oper} {rs : List Nat} (ho : L.drop i = o :: rest)
    (h : ∀ K' : Act → World → Prop, Shut (∀ a w, S w → (S w → wpAnyH P md L.toArray Q S fuel (listed.setIfInBounds i true) a w) → K' a w) → if Region.wanted o (yielded L.toArray a.tmps) = true then Oper.wp P o a w K' Q else K' (a.put o.dst undef) w)
    (hs : AllReadyH P md L.toArray Q S fuel listed a w rs) : AllReadyH P md L.toArray Q S fuel listed a w (i :: rs) := AllReadyH.cons (at_drop ho) h hs
end

theorem V_base {α : Type} {d : Kd α} {e b b' : Nat} {W : World} {ok : Nat → Prop} {v : Value} {xs : List α} (h : Kd.V d e W b ok v xs) : Kd.V d e W b' ok v xs := h
theorem V_C {α : Type} {d : Kd α} {e b : Nat} {W : World} {ok : Nat → Prop} {A : Option Addr} {n c : Nat} {xs : List α} (h : Kd.V d e W b ok (.slice A n c) xs) : d.C W A xs.length xs := (Kd.V_reads' h).2.2
theorem awake12_is : pentroughlaw12_awake.f 1000 = some true := by decide +kernel
structure SegFacts (l0 : List Int) (on : Bool) (kd : Int) (p o : Bool) (a1 : Int) (l2 q1 : List Int) (q2 : Bool) (q3 : Int) (q4 q5 : Bool) (q6 : List Int) (sg : Bool) (en : List Int) (T : List (List Int)) : Prop where
  fd : seg_Feed.f l0 on kd p o a1 = some (q1, q2, q3, q4, q5, q6)
  rfd : pentroughref12_Feed.f l0 on kd p o a1 = some (q1, q2, q3, q4, q5, q6)
  sn : seg_Sane.f 1000 l0 on kd p o = some sg
  rsn : pentroughref12_Sane.f l0 on kd p o = some sg
  sm : pentroughlaw12_same.f 1000 q1 q2 q3 q4 q5 q1 q2 q3 q4 q5 = some true
  s6 : pentroughref01_Same.f 1000 q6 q6 = some true
  ed : seg_End.f 1000 l0 on kd p o = some en
  red : pentroughref12_End.f l0 on kd p o = some en
  se : pentroughref01_Same.f 1000 en en = some true
  al : seg_All.f l2 = some T
  ral : pentroughref12_All.f 1000 l2 = some T
  st : pentroughref12_Same.f 1000 T T = some true

theorem segis_long (A0 : Option Addr) (c0' : Nat) (l0 : List Int) (on : Bool) (kd : Int) (p o : Bool) (a1 : Int) (A2 : Option Addr) (c2 : Nat) (l2 : List Int) (w : World) (hl : 60 < l0.length ∨ 150 < l2.length) :
    Calls Try.prog 10 #[.agg #[.slice A0 l0.length c0', .bool on, .int .i64 kd, .bool p, .bool o], .int .i64 a1, .slice A2 l2.length c2] w fun e w' => e = .returned (.bool true) ∧ Below w.heap.size w w' := by
  have HA := Aside0.mk awake12_is
  by_cases h0 : 60 < l0.length
  · have e1 : decide ((60 : Int) < (l0.length : Int)) = true := decide_eq_true (by omega)
    go_enter Try.func10, Try.ntmps10
    go_wp2_with fail
    refine (pentroughlaw12_awake.calls 1000 true _ HA.out).mono ?_
    rintro e w1 ⟨rfl, hb⟩
    have HB := Aside0.mk (((Below.refl w.heap.size w).alloc (Nat.le_refl _) _).trans (hb.mono (by simp)))
    have K1 := blk_below (blk_new w (.cells #[.slice A0 l0.length c0', .bool on, .int .i64 kd, .bool p, .bool o] 48)) hb
    have k0 := blk_cell K1 0
    clear hb K1
    go_wp2_with fail
    go_ret
    exact ⟨rfl, HB.out⟩
  · have e1 : decide ((60 : Int) < (l0.length : Int)) = false := decide_eq_false (by omega)
    have e2 : decide ((150 : Int) < (l2.length : Int)) = true := decide_eq_true (by omega)
    go_enter Try.func10, Try.ntmps10
    go_wp2_with fail
    refine (pentroughlaw12_awake.calls 1000 true _ HA.out).mono ?_
    rintro e w1 ⟨rfl, hb⟩
    have HB := Aside0.mk (((Below.refl w.heap.size w).alloc (Nat.le_refl _) _).trans (hb.mono (by simp)))
    have K1 := blk_below (blk_new w (.cells #[.slice A0 l0.length c0', .bool on, .int .i64 kd, .bool p, .bool o] 48)) hb
    have k0 := blk_cell K1 0
    clear hb K1
    go_wp2_with fail
    go_ret
    exact ⟨rfl, HB.out⟩

set_option maxHeartbeats 4000000 in
set_option maxRecDepth 100000 in
theorem segis_main (A0 : Option Addr) (c0' : Nat) (l0 : List Int) (on : Bool) (kd : Int) (p o : Bool) (a1 : Int) (A2 : Option Addr) (c2 : Nat) (l2 : List Int) (q1 : List Int) (q2 : Bool) (q3 : Int) (q4 q5 : Bool) (q6 : List Int) (sg : Bool) (en : List Int) (T : List (List Int)) (w : World) (hr0 : Kd.C (Kd.int .i64) w A0 l0.length l0) (hc0 : l0.length ≤ c0') (hr2 : Kd.C (Kd.int .i64) w A2 l2.length l2) (hc2 : l2.length ≤ c2) (h0 : l0.length ≤ 60) (h2 : l2.length ≤ 150) (hF : SegFacts l0 on kd p o a1 l2 q1 q2 q3 q4 q5 q6 sg en T) :
    Calls Try.prog 10 #[.agg #[.slice A0 l0.length c0', .bool on, .int .i64 kd, .bool p, .bool o], .int .i64 a1, .slice A2 l2.length c2] w fun e w' => e = .returned (.bool true) ∧ Below w.heap.size w w' := by
  have HA := Aside0.mk awake12_is
  have HF := Aside0.mk hF
  have HR0 := Aside0.mk hr0
  have HR2 := Aside0.mk hr2
  have e1 : decide ((60 : Int) < (l0.length : Int)) = false := decide_eq_false (by omega)
  have e2 : decide ((150 : Int) < (l2.length : Int)) = false := decide_eq_false (by omega)
  clear hr0 hr2 hF
  go_enter Try.func10, Try.ntmps10
  go_wp2_with fail
  refine (pentroughlaw12_awake.calls 1000 true _ HA.out).mono ?_
  rintro e w1 ⟨rfl, hb⟩
  have HB1 := Aside0.mk (((Below.refl w.heap.size w).alloc (Nat.le_refl _) _).trans (hb.mono (by simp)))
  have hz1 : w.heap.size < w1.heap.size := by have := hb.size; simp at this; omega
  have HK1 := Aside0.mk (blk_below (blk_new w (.cells #[.slice A0 l0.length c0', .bool on, .int .i64 kd, .bool p, .bool o] 48)) hb)
  have HL1 := Aside0.mk (V_base (b' := 0) (Kd.V_mono (ok' := fun _ => True) (Kd.V_mk (e := 3) (base := 0) hc0 (Kd.C_F (Kd.heap_int .i64) (Kd.C_below HR0.out HB1.out))) (fun _ _ => trivial)))
  have k0 := blk_cell HK1.out 0
  have k1 := blk_cell HK1.out 1
  have k2 := blk_cell HK1.out 2
  have k3 := blk_cell HK1.out 3
  have k4 := blk_cell HK1.out 4
  clear hb
  go_wp2_with fail
  refine (pentroughlaw12_ours.calls (fun _ => True) A0 c0' l0 on kd p o l0 on kd p o _ (V_base HL1.out) rfl).mono ?_
  rintro e w2 ⟨v2, rfl, hv, hb⟩
  have HB2 := Aside0.mk (HB1.out.trans (hb.mono HB1.out.size))
  have hz2 : w.heap.size < w2.heap.size := Nat.lt_of_lt_of_le hz1 hb.size
  have HK2 := Aside0.mk (blk_below HK1.out hb)
  have HL2 := Aside0.mk (Kd.V_below HL1.out hb)
  obtain ⟨A5, c5, rfl⟩ := Kd.V_slice hv
  have HV := Aside0.mk (Kd.V_mono (ok' := fun _ => True) hv (fun _ _ => trivial))
  clear hv hb HB1 HK1 HL1 hz1 k0 k1 k2 k3 k4
  go_wp2_with fail
  refine (seg_Feed.calls (fun _ => True) A5 c5 l0 on kd p o a1 q1 q2 q3 q4 q5 q6 _ (V_base HV.out) HF.out.fd).mono ?_
  rintro e w3 ⟨v3, v3', rfl, hv, hv', hb⟩
  have HB3 := Aside0.mk (HB2.out.trans (hb.mono HB2.out.size))
  have hz3 : w.heap.size < w3.heap.size := Nat.lt_of_lt_of_le hz2 hb.size
  have HK3 := Aside0.mk (blk_below HK2.out hb)
  have HL3 := Aside0.mk (Kd.V_below HL2.out hb)
  obtain ⟨A6, c6, rfl⟩ := Kd.V_slice hv
  obtain ⟨A7, c7, rfl⟩ := Kd.V_slice hv'
  have HP3 := Aside0.mk (V_base (b' := 0) (Kd.V_mono (ok' := fun _ => True) hv (fun _ _ => trivial)))
  have HQ3 := Aside0.mk (V_base (b' := 0) (Kd.V_mono (ok' := fun _ => True) hv' (fun _ _ => trivial)))
  clear hv hv' hb HB2 HK2 HL2 HV hz2
  have k0 := blk_cell HK3.out 0
  have k1 := blk_cell HK3.out 1
  have k2 := blk_cell HK3.out 2
  have k3 := blk_cell HK3.out 3
  have k4 := blk_cell HK3.out 4
  have HX3 := Aside0.mk (blk_alloc HK3.out (.cells #[.slice A6 q1.length c6, .bool q2, .int .i64 q3, .bool q4, .bool q5] 51))
  have HL4 := Aside0.mk (Kd.V_alloc HL3.out (.cells #[.slice A6 q1.length c6, .bool q2, .int .i64 q3, .bool q4, .bool q5] 51))
  have HP4 := Aside0.mk (Kd.V_alloc HP3.out (.cells #[.slice A6 q1.length c6, .bool q2, .int .i64 q3, .bool q4, .bool q5] 51))
  have HQ4 := Aside0.mk (Kd.V_alloc HQ3.out (.cells #[.slice A6 q1.length c6, .bool q2, .int .i64 q3, .bool q4, .bool q5] 51))
  have HY4 := Aside0.mk (blk_new w3 (.cells #[.slice A6 q1.length c6, .bool q2, .int .i64 q3, .bool q4, .bool q5] 51))
  have HB4 := Aside0.mk (HB3.out.alloc (Nat.le_of_lt hz3) (.cells #[.slice A6 q1.length c6, .bool q2, .int .i64 q3, .bool q4, .bool q5] 51))
  go_wp2_with fail
  refine (pentroughref12_Feed.calls (fun _ => True) A0 c0' l0 on kd p o a1 q1 q2 q3 q4 q5 q6 _ (V_base HL4.out) HF.out.rfd).mono ?_
  rintro e w5 ⟨v5, v5', rfl, hv, hv', hb⟩
  have HB5 := Aside0.mk (HB4.out.trans (hb.mono HB4.out.size))
  have hz5 : w3.heap.size < w5.heap.size := by have := hb.size; simp at this; omega
  have hz6 : w.heap.size < w5.heap.size := by omega
  have HK5 := Aside0.mk (blk_below HX3.out hb)
  have HY5 := Aside0.mk (blk_below HY4.out hb)
  have HL5 := Aside0.mk (Kd.V_below HL4.out hb)
  have HP5 := Aside0.mk (Kd.V_below HP4.out hb)
  have HQ5 := Aside0.mk (Kd.V_below HQ4.out hb)
  obtain ⟨A8, c8, rfl⟩ := Kd.V_slice hv
  obtain ⟨A9, c9, rfl⟩ := Kd.V_slice hv'
  have HM5 := Aside0.mk (V_base (b' := 0) (Kd.V_mono (ok' := fun _ => True) hv (fun _ _ => trivial)))
  have HN5 := Aside0.mk (V_base (b' := 0) (Kd.V_mono (ok' := fun _ => True) hv' (fun _ _ => trivial)))
  clear hv hv' hb HB3 HB4 HK3 HL3 HP3 HQ3 HX3 HY4 HL4 HP4 HQ4 k0 k1 k2 k3 k4
  have HZ6 := Aside0.mk (blk_new w5 (.cells #[.slice A8 q1.length c8, .bool q2, .int .i64 q3, .bool q4, .bool q5] 48))
  have HK6 := Aside0.mk (blk_alloc HK5.out (.cells #[.slice A8 q1.length c8, .bool q2, .int .i64 q3, .bool q4, .bool q5] 48))
  have HY6 := Aside0.mk (blk_alloc HY5.out (.cells #[.slice A8 q1.length c8, .bool q2, .int .i64 q3, .bool q4, .bool q5] 48))
  have HL6 := Aside0.mk (Kd.V_alloc HL5.out (.cells #[.slice A8 q1.length c8, .bool q2, .int .i64 q3, .bool q4, .bool q5] 48))
  have HP6 := Aside0.mk (Kd.V_alloc HP5.out (.cells #[.slice A8 q1.length c8, .bool q2, .int .i64 q3, .bool q4, .bool q5] 48))
  have HQ6 := Aside0.mk (Kd.V_alloc HQ5.out (.cells #[.slice A8 q1.length c8, .bool q2, .int .i64 q3, .bool q4, .bool q5] 48))
  have HM6 := Aside0.mk (Kd.V_alloc HM5.out (.cells #[.slice A8 q1.length c8, .bool q2, .int .i64 q3, .bool q4, .bool q5] 48))
  have HN6 := Aside0.mk (Kd.V_alloc HN5.out (.cells #[.slice A8 q1.length c8, .bool q2, .int .i64 q3, .bool q4, .bool q5] 48))
  have HB6 := Aside0.mk (HB5.out.alloc (Nat.le_of_lt hz6) (.cells #[.slice A8 q1.length c8, .bool q2, .int .i64 q3, .bool q4, .bool q5] 48))
  clear HB5 HK5 HY5 HL5 HP5 HQ5 HM5 HN5
  go_wp2_with fail
  refine wp_region_noPanic ?_
  refine wp_region_held_drew (S := fun w' => Below (w5.alloc (.cells #[.slice A8 q1.length c8, .bool q2, .int .i64 q3, .bool q4, .bool q5] 48)).heap.size (w5.alloc (.cells #[.slice A8 q1.length c8, .bool q2, .int .i64 q3, .bool q4, .bool q5] 48)) w') (by kernel_rfl) (pw_below_drewN (Below.refl _ _) 1) (fun hHeld => ?_)
  have HS := Aside0.mk hHeld
  clear hHeld
  refine take_drop (i := 0) (v := ?_) rfl (by kernel_rfl) (by kernel_rfl) (by kernel_rfl) (fun _ _ _ h => h) (Or.inl ⟨by rfl, ?_⟩) HS.out ?_
  rotate_left
  · intro w_ hSw
    go_simp
    all_goals with_reducible rfl
  try simp only [Act.put, List.setIfInBounds_toArray, List.set_cons_zero, List.set_cons_succ]
  refine take_drop (i := 1) (v := ?_) rfl (by kernel_rfl) (by kernel_rfl) (by kernel_rfl) (fun _ _ _ h => h) (Or.inl ⟨by rfl, ?_⟩) HS.out ?_
  rotate_left
  · intro w_ hSw
    go_simp
    all_goals with_reducible rfl
  try simp only [Act.put, List.setIfInBounds_toArray, List.set_cons_zero, List.set_cons_succ]
  refine take_drop (i := 2) (v := ?_) rfl (by kernel_rfl) (by kernel_rfl) (by kernel_rfl) (fun _ _ _ h => h) (Or.inl ⟨by rfl, ?_⟩) HS.out ?_
  rotate_left
  · intro w_ hSw
    have k0 := blk_cell (blk_below HK6.out hSw) 0
    have k1 := blk_cell (blk_below HK6.out hSw) 1
    have k2 := blk_cell (blk_below HK6.out hSw) 2
    have k3 := blk_cell (blk_below HK6.out hSw) 3
    have k4 := blk_cell (blk_below HK6.out hSw) 4
    go_simp
    all_goals with_reducible rfl
  try simp only [Act.put, List.setIfInBounds_toArray, List.set_cons_zero, List.set_cons_succ]
  refine take_drop (i := 5) (v := ?_) rfl (by kernel_rfl) (by kernel_rfl) (by kernel_rfl) (fun _ _ _ h => h) (Or.inl ⟨by rfl, ?_⟩) HS.out ?_
  rotate_left
  · intro w_ hSw
    have k0 := blk_cell (blk_below HK6.out hSw) 0
    have k1 := blk_cell (blk_below HK6.out hSw) 1
    have k2 := blk_cell (blk_below HK6.out hSw) 2
    have k3 := blk_cell (blk_below HK6.out hSw) 3
    have k4 := blk_cell (blk_below HK6.out hSw) 4
    go_simp
    all_goals with_reducible rfl
  try simp only [Act.put, List.setIfInBounds_toArray, List.set_cons_zero, List.set_cons_succ]
  refine wpAnyH_ready (rs := [3]) (by kernel_rfl) (by simp) ?_
  refine cons_drop (i := 3) rfl (fun K hK => ?_) AllReadyH.nil
  go_simp
  refine (pentroughlaw12_ours.calls (fun _ => True) A0 c0' l0 on kd p o l0 on kd p o _ (V_base (Kd.V_below HL6.out HS.out)) rfl).mono ?_
  rintro e w7 ⟨v, rfl, hv, hb⟩
  have HG := Aside0.mk (HS.out.trans (hb.mono HS.out.size))
  have HH := Aside0.mk (show ∀ w_, Below w7.heap.size w7 w_ → Below (w5.alloc (.cells #[.slice A8 q1.length c8, .bool q2, .int .i64 q3, .bool q4, .bool q5] 48)).heap.size (w5.alloc (.cells #[.slice A8 q1.length c8, .bool q2, .int .i64 q3, .bool q4, .bool q5] 48)) w_ from fun w_ h_ => HG.out.trans (h_.mono HG.out.size))
  have HX := Aside0.mk (Below.refl w7.heap.size w7)
  have HB7 := Aside0.mk (HB6.out.trans (HG.out.mono HB6.out.size))
  have HK7 := Aside0.mk (blk_below HK6.out HG.out)
  have HY7 := Aside0.mk (blk_below HY6.out HG.out)
  have HZ7 := Aside0.mk (blk_below HZ6.out HG.out)
  have HL7 := Aside0.mk (Kd.V_below HL6.out HG.out)
  have HP7 := Aside0.mk (Kd.V_below HP6.out HG.out)
  have HQ7 := Aside0.mk (Kd.V_below HQ6.out HG.out)
  have HM7 := Aside0.mk (Kd.V_below HM6.out HG.out)
  have HN7 := Aside0.mk (Kd.V_below HN6.out HG.out)
  obtain ⟨A20, c20, rfl⟩ := Kd.V_slice hv
  have HO7 := Aside0.mk (V_base (b' := 0) (Kd.V_mono (ok' := fun _ => True) hv (fun _ _ => trivial)))
  clear hv
  clear hb HB6 HK6 HY6 HZ6 HL6 HP6 HQ6 HM6 HN6
  go_wp2_with fail
  refine hK.out _ _ (HG.out) (fun hHeld => ?_)
  clear hK K
  try simp only [Act.put, List.setIfInBounds_toArray, List.set_cons_zero, List.set_cons_succ]
  refine wpAnyH_strong HH.out _ _ _ _ ?_
  clear HS HG HH hHeld
  have HS := HX
  clear HX
  refine wpAnyH_ready (rs := [4]) (by kernel_rfl) (by simp) ?_
  refine cons_drop (i := 4) rfl (fun K hK => ?_) AllReadyH.nil
  go_simp
  refine (seg_Sane.calls 1000 A20 c20 l0 on kd p o sg _ (V_C (Kd.V_below HO7.out HS.out)) (Kd.V_reads' HO7.out).2.1 HF.out.sn).mono ?_
  rintro e w8 ⟨rfl, hb⟩
  have HG := Aside0.mk (HS.out.trans (hb.mono HS.out.size))
  have HH := Aside0.mk (show ∀ w_, Below w8.heap.size w8 w_ → Below w7.heap.size w7 w_ from fun w_ h_ => HG.out.trans (h_.mono HG.out.size))
  have HX := Aside0.mk (Below.refl w8.heap.size w8)
  have HB8 := Aside0.mk (HB7.out.trans (HG.out.mono HB7.out.size))
  have HK8 := Aside0.mk (blk_below HK7.out HG.out)
  have HY8 := Aside0.mk (blk_below HY7.out HG.out)
  have HZ8 := Aside0.mk (blk_below HZ7.out HG.out)
  have HL8 := Aside0.mk (Kd.V_below HL7.out HG.out)
  have HP8 := Aside0.mk (Kd.V_below HP7.out HG.out)
  have HQ8 := Aside0.mk (Kd.V_below HQ7.out HG.out)
  have HM8 := Aside0.mk (Kd.V_below HM7.out HG.out)
  have HN8 := Aside0.mk (Kd.V_below HN7.out HG.out)
  have HO8 := Aside0.mk (Kd.V_below HO7.out HG.out)
  clear hb HB7 HK7 HY7 HZ7 HL7 HP7 HQ7 HM7 HN7 HO7
  go_wp2_with fail
  refine hK.out _ _ (HG.out) (fun hHeld => ?_)
  clear hK K
  try simp only [Act.put, List.setIfInBounds_toArray, List.set_cons_zero, List.set_cons_succ]
  refine wpAnyH_strong HH.out _ _ _ _ ?_
  clear HS HG HH hHeld
  have HS := HX
  clear HX
  clear HO8
  refine wpAnyH_ready (rs := [6]) (by kernel_rfl) (by simp) ?_
  refine cons_drop (i := 6) rfl (fun K hK => ?_) AllReadyH.nil
  go_simp
  refine (pentroughref12_Sane.calls A0 c0' l0 on kd p o sg _ (V_C (Kd.V_below HL8.out HS.out)) (Kd.V_reads' HL8.out).2.1 HF.out.rsn).mono ?_
  rintro e w9 ⟨rfl, hb⟩
  have HG := Aside0.mk (HS.out.trans (hb.mono HS.out.size))
  have HH := Aside0.mk (show ∀ w_, Below w9.heap.size w9 w_ → Below w8.heap.size w8 w_ from fun w_ h_ => HG.out.trans (h_.mono HG.out.size))
  have HX := Aside0.mk (Below.refl w9.heap.size w9)
  have HB9 := Aside0.mk (HB8.out.trans (HG.out.mono HB8.out.size))
  have HK9 := Aside0.mk (blk_below HK8.out HG.out)
  have HY9 := Aside0.mk (blk_below HY8.out HG.out)
  have HZ9 := Aside0.mk (blk_below HZ8.out HG.out)
  have HL9 := Aside0.mk (Kd.V_below HL8.out HG.out)
  have HP9 := Aside0.mk (Kd.V_below HP8.out HG.out)
  have HQ9 := Aside0.mk (Kd.V_below HQ8.out HG.out)
  have HM9 := Aside0.mk (Kd.V_below HM8.out HG.out)
  have HN9 := Aside0.mk (Kd.V_below HN8.out HG.out)
  clear hb HB8 HK8 HY8 HZ8 HL8 HP8 HQ8 HM8 HN8
  go_wp2_with fail
  refine hK.out _ _ (HG.out) (fun hHeld => ?_)
  clear hK K
  try simp only [Act.put, List.setIfInBounds_toArray, List.set_cons_zero, List.set_cons_succ]
  refine wpAnyH_strong HH.out _ _ _ _ ?_
  clear HS HG HH hHeld
  have HS := HX
  clear HX
  refine take_drop (i := 7) (v := ?_) rfl (by kernel_rfl) (by kernel_rfl) (by kernel_rfl) (fun _ _ _ h => h) (Or.inl ⟨by rfl, ?_⟩) HS.out ?_
  rotate_left
  · intro w_ hSw
    go_simp
    all_goals with_reducible rfl
  try simp only [Act.put, List.setIfInBounds_toArray, List.set_cons_zero, List.set_cons_succ]
  refine take_drop (i := 8) (v := ?_) rfl (by kernel_rfl) (by kernel_rfl) (by kernel_rfl) (fun _ _ _ h => h) (Or.inl ⟨by rfl, ?_⟩) HS.out ?_
  rotate_left
  · intro w_ hSw
    go_simp
    all_goals with_reducible rfl
  try simp only [Act.put, List.setIfInBounds_toArray, List.set_cons_zero, List.set_cons_succ]
  refine take_drop (i := 9) (v := ?_) rfl (by kernel_rfl) (by kernel_rfl) (by kernel_rfl) (fun _ _ _ h => h) (Or.inl ⟨by rfl, ?_⟩) HS.out ?_
  rotate_left
  · intro w_ hSw
    go_simp
    all_goals with_reducible rfl
  try simp only [Act.put, List.setIfInBounds_toArray, List.set_cons_zero, List.set_cons_succ]
  refine take_drop (i := 10) (v := ?_) rfl (by kernel_rfl) (by kernel_rfl) (by kernel_rfl) (fun _ _ _ h => h) (Or.inl ⟨by rfl, ?_⟩) HS.out ?_
  rotate_left
  · intro w_ hSw
    have k0 := blk_cell (blk_below HY9.out hSw) 0
    have k1 := blk_cell (blk_below HY9.out hSw) 1
    have k2 := blk_cell (blk_below HY9.out hSw) 2
    have k3 := blk_cell (blk_below HY9.out hSw) 3
    have k4 := blk_cell (blk_below HY9.out hSw) 4
    go_simp
    all_goals with_reducible rfl
  try simp only [Act.put, List.setIfInBounds_toArray, List.set_cons_zero, List.set_cons_succ]
  refine take_drop (i := 11) (v := ?_) rfl (by kernel_rfl) (by kernel_rfl) (by kernel_rfl) (fun _ _ _ h => h) (Or.inl ⟨by rfl, ?_⟩) HS.out ?_
  rotate_left
  · intro w_ hSw
    have k0 := blk_cell (blk_below HZ9.out hSw) 0
    have k1 := blk_cell (blk_below HZ9.out hSw) 1
    have k2 := blk_cell (blk_below HZ9.out hSw) 2
    have k3 := blk_cell (blk_below HZ9.out hSw) 3
    have k4 := blk_cell (blk_below HZ9.out hSw) 4
    go_simp
    all_goals with_reducible rfl
  try simp only [Act.put, List.setIfInBounds_toArray, List.set_cons_zero, List.set_cons_succ]
  refine wpAnyH_ready (rs := [12]) (by kernel_rfl) (by simp) ?_
  refine cons_drop (i := 12) rfl (fun K hK => ?_) AllReadyH.nil
  go_simp
  refine (pentroughlaw12_same.calls 1000 A6 c6 q1 q2 q3 q4 q5 A8 c8 q1 q2 q3 q4 q5 true _ (V_C (Kd.V_below HP9.out HS.out)) (Kd.V_reads' HP9.out).2.1 (V_C (Kd.V_below HM9.out HS.out)) (Kd.V_reads' HM9.out).2.1 HF.out.sm).mono ?_
  rintro e w10 ⟨rfl, hb⟩
  have HG := Aside0.mk (HS.out.trans (hb.mono HS.out.size))
  have HH := Aside0.mk (show ∀ w_, Below w10.heap.size w10 w_ → Below w9.heap.size w9 w_ from fun w_ h_ => HG.out.trans (h_.mono HG.out.size))
  have HX := Aside0.mk (Below.refl w10.heap.size w10)
  have HB10 := Aside0.mk (HB9.out.trans (HG.out.mono HB9.out.size))
  have HK10 := Aside0.mk (blk_below HK9.out HG.out)
  have HY10 := Aside0.mk (blk_below HY9.out HG.out)
  have HZ10 := Aside0.mk (blk_below HZ9.out HG.out)
  have HL10 := Aside0.mk (Kd.V_below HL9.out HG.out)
  have HP10 := Aside0.mk (Kd.V_below HP9.out HG.out)
  have HQ10 := Aside0.mk (Kd.V_below HQ9.out HG.out)
  have HM10 := Aside0.mk (Kd.V_below HM9.out HG.out)
  have HN10 := Aside0.mk (Kd.V_below HN9.out HG.out)
  clear hb HB9 HK9 HY9 HZ9 HL9 HP9 HQ9 HM9 HN9
  go_wp2_with fail
  refine hK.out _ _ (HG.out) (fun hHeld => ?_)
  clear hK K
  try simp only [Act.put, List.setIfInBounds_toArray, List.set_cons_zero, List.set_cons_succ]
  refine wpAnyH_strong HH.out _ _ _ _ ?_
  clear HS HG HH hHeld
  have HS := HX
  clear HX
  refine take_drop (i := 13) (v := ?_) rfl (by kernel_rfl) (by kernel_rfl) (by kernel_rfl) (fun _ _ _ h => h) (Or.inl ⟨by rfl, ?_⟩) HS.out ?_
  rotate_left
  · intro w_ hSw
    go_simp
    all_goals with_reducible rfl
  try simp only [Act.put, List.setIfInBounds_toArray, List.set_cons_zero, List.set_cons_succ]
  refine take_drop (i := 14) (v := ?_) rfl (by kernel_rfl) (by kernel_rfl) (by kernel_rfl) (fun _ _ _ h => h) (Or.inl ⟨by rfl, ?_⟩) HS.out ?_
  rotate_left
  · intro w_ hSw
    go_simp
    all_goals with_reducible rfl
  try simp only [Act.put, List.setIfInBounds_toArray, List.set_cons_zero, List.set_cons_succ]
  refine take_drop (i := 15) (v := ?_) rfl (by kernel_rfl) (by kernel_rfl) (by kernel_rfl) (fun _ _ _ h => h) (Or.inl ⟨by rfl, ?_⟩) HS.out ?_
  rotate_left
  · intro w_ hSw
    go_simp
    all_goals with_reducible rfl
  try simp only [Act.put, List.setIfInBounds_toArray, List.set_cons_zero, List.set_cons_succ]
  refine take_drop (i := 16) (v := ?_) rfl (by kernel_rfl) (by kernel_rfl) (by kernel_rfl) (fun _ _ _ h => h) (Or.inl ⟨by rfl, ?_⟩) HS.out ?_
  rotate_left
  · intro w_ hSw
    go_simp
    all_goals with_reducible rfl
  try simp only [Act.put, List.setIfInBounds_toArray, List.set_cons_zero, List.set_cons_succ]
  refine wpAnyH_ready (rs := [17]) (by kernel_rfl) (by simp) ?_
  refine cons_drop (i := 17) rfl (fun K hK => ?_) AllReadyH.nil
  go_simp
  refine (pentroughref01_Same.calls 1000 A7 c7 q6 A9 c9 q6 true _ (V_C (Kd.V_below HQ10.out HS.out)) (Kd.V_reads' HQ10.out).2.1 (V_C (Kd.V_below HN10.out HS.out)) (Kd.V_reads' HN10.out).2.1 HF.out.s6).mono ?_
  rintro e w11 ⟨rfl, hd⟩
  have hb := hd.below
  have HG := Aside0.mk (HS.out.trans (hb.mono HS.out.size))
  have HH := Aside0.mk (show ∀ w_, Below w11.heap.size w11 w_ → Below w10.heap.size w10 w_ from fun w_ h_ => HG.out.trans (h_.mono HG.out.size))
  have HX := Aside0.mk (Below.refl w11.heap.size w11)
  have HB11 := Aside0.mk (HB10.out.trans (HG.out.mono HB10.out.size))
  have HK11 := Aside0.mk (blk_below HK10.out HG.out)
  have HY11 := Aside0.mk (blk_below HY10.out HG.out)
  have HZ11 := Aside0.mk (blk_below HZ10.out HG.out)
  have HL11 := Aside0.mk (Kd.V_below HL10.out HG.out)
  have HP11 := Aside0.mk (Kd.V_below HP10.out HG.out)
  have HQ11 := Aside0.mk (Kd.V_below HQ10.out HG.out)
  have HM11 := Aside0.mk (Kd.V_below HM10.out HG.out)
  have HN11 := Aside0.mk (Kd.V_below HN10.out HG.out)
  clear hb HB10 HK10 HY10 HZ10 HL10 HP10 HQ10 HM10 HN10 hd
  go_wp2_with fail
  refine hK.out _ _ (HG.out) (fun hHeld => ?_)
  clear hK K
  try simp only [Act.put, List.setIfInBounds_toArray, List.set_cons_zero, List.set_cons_succ]
  refine wpAnyH_strong HH.out _ _ _ _ ?_
  clear HS HG HH hHeld
  have HS := HX
  clear HX
  refine take_drop (i := 18) (v := ?_) rfl (by kernel_rfl) (by kernel_rfl) (by kernel_rfl) (fun _ _ _ h => h) (Or.inl ⟨by rfl, ?_⟩) HS.out ?_
  rotate_left
  · intro w_ hSw
    go_simp
    all_goals with_reducible rfl
  try simp only [Act.put, List.setIfInBounds_toArray, List.set_cons_zero, List.set_cons_succ]
  refine take_drop (i := 19) (v := ?_) rfl (by kernel_rfl) (by kernel_rfl) (by kernel_rfl) (fun _ _ _ h => h) (Or.inl ⟨by rfl, ?_⟩) HS.out ?_
  rotate_left
  · intro w_ hSw
    go_simp
    all_goals with_reducible rfl
  try simp only [Act.put, List.setIfInBounds_toArray, List.set_cons_zero, List.set_cons_succ]
  refine take_drop (i := 20) (v := ?_) rfl (by kernel_rfl) (by kernel_rfl) (by kernel_rfl) (fun _ _ _ h => h) (Or.inl ⟨by rfl, ?_⟩) HS.out ?_
  rotate_left
  · intro w_ hSw
    have k0 := blk_cell (blk_below HK11.out hSw) 0
    have k1 := blk_cell (blk_below HK11.out hSw) 1
    have k2 := blk_cell (blk_below HK11.out hSw) 2
    have k3 := blk_cell (blk_below HK11.out hSw) 3
    have k4 := blk_cell (blk_below HK11.out hSw) 4
    go_simp
    all_goals with_reducible rfl
  try simp only [Act.put, List.setIfInBounds_toArray, List.set_cons_zero, List.set_cons_succ]
  refine take_drop (i := 23) (v := ?_) rfl (by kernel_rfl) (by kernel_rfl) (by kernel_rfl) (fun _ _ _ h => h) (Or.inl ⟨by rfl, ?_⟩) HS.out ?_
  rotate_left
  · intro w_ hSw
    have k0 := blk_cell (blk_below HK11.out hSw) 0
    have k1 := blk_cell (blk_below HK11.out hSw) 1
    have k2 := blk_cell (blk_below HK11.out hSw) 2
    have k3 := blk_cell (blk_below HK11.out hSw) 3
    have k4 := blk_cell (blk_below HK11.out hSw) 4
    go_simp
    all_goals with_reducible rfl
  try simp only [Act.put, List.setIfInBounds_toArray, List.set_cons_zero, List.set_cons_succ]
  refine wpAnyH_ready (rs := [21]) (by kernel_rfl) (by simp) ?_
  refine cons_drop (i := 21) rfl (fun K hK => ?_) AllReadyH.nil
  go_simp
  refine (pentroughlaw12_ours.calls (fun _ => True) A0 c0' l0 on kd p o l0 on kd p o _ (V_base (Kd.V_below HL11.out HS.out)) rfl).mono ?_
  rintro e w12 ⟨v, rfl, hv, hb⟩
  have HG := Aside0.mk (HS.out.trans (hb.mono HS.out.size))
  have HH := Aside0.mk (show ∀ w_, Below w12.heap.size w12 w_ → Below w11.heap.size w11 w_ from fun w_ h_ => HG.out.trans (h_.mono HG.out.size))
  have HX := Aside0.mk (Below.refl w12.heap.size w12)
  have HB12 := Aside0.mk (HB11.out.trans (HG.out.mono HB11.out.size))
  have HK12 := Aside0.mk (blk_below HK11.out HG.out)
  have HY12 := Aside0.mk (blk_below HY11.out HG.out)
  have HZ12 := Aside0.mk (blk_below HZ11.out HG.out)
  have HL12 := Aside0.mk (Kd.V_below HL11.out HG.out)
  have HP12 := Aside0.mk (Kd.V_below HP11.out HG.out)
  have HQ12 := Aside0.mk (Kd.V_below HQ11.out HG.out)
  have HM12 := Aside0.mk (Kd.V_below HM11.out HG.out)
  have HN12 := Aside0.mk (Kd.V_below HN11.out HG.out)
  obtain ⟨A21, c21, rfl⟩ := Kd.V_slice hv
  have HO12 := Aside0.mk (V_base (b' := 0) (Kd.V_mono (ok' := fun _ => True) hv (fun _ _ => trivial)))
  clear hv
  clear hb HB11 HK11 HY11 HZ11 HL11 HP11 HQ11 HM11 HN11
  go_wp2_with fail
  refine hK.out _ _ (HG.out) (fun hHeld => ?_)
  clear hK K
  try simp only [Act.put, List.setIfInBounds_toArray, List.set_cons_zero, List.set_cons_succ]
  refine wpAnyH_strong HH.out _ _ _ _ ?_
  clear HS HG HH hHeld
  have HS := HX
  clear HX
  refine wpAnyH_ready (rs := [22]) (by kernel_rfl) (by simp) ?_
  refine cons_drop (i := 22) rfl (fun K hK => ?_) AllReadyH.nil
  go_simp
  refine (seg_End.calls 1000 (fun _ => True) A21 c21 l0 on kd p o en _ (V_base (Kd.V_below HO12.out HS.out)) HF.out.ed).mono ?_
  rintro e w13 ⟨v, rfl, hv, hb⟩
  have HG := Aside0.mk (HS.out.trans (hb.mono HS.out.size))
  have HH := Aside0.mk (show ∀ w_, Below w13.heap.size w13 w_ → Below w12.heap.size w12 w_ from fun w_ h_ => HG.out.trans (h_.mono HG.out.size))
  have HX := Aside0.mk (Below.refl w13.heap.size w13)
  have HB13 := Aside0.mk (HB12.out.trans (HG.out.mono HB12.out.size))
  have HK13 := Aside0.mk (blk_below HK12.out HG.out)
  have HY13 := Aside0.mk (blk_below HY12.out HG.out)
  have HZ13 := Aside0.mk (blk_below HZ12.out HG.out)
  have HL13 := Aside0.mk (Kd.V_below HL12.out HG.out)
  have HP13 := Aside0.mk (Kd.V_below HP12.out HG.out)
  have HQ13 := Aside0.mk (Kd.V_below HQ12.out HG.out)
  have HM13 := Aside0.mk (Kd.V_below HM12.out HG.out)
  have HN13 := Aside0.mk (Kd.V_below HN12.out HG.out)
  have HO13 := Aside0.mk (Kd.V_below HO12.out HG.out)
  obtain ⟨A22, c22, rfl⟩ := Kd.V_slice hv
  have HE13 := Aside0.mk (V_base (b' := 0) (Kd.V_mono (ok' := fun _ => True) hv (fun _ _ => trivial)))
  clear hv
  clear hb HB12 HK12 HY12 HZ12 HL12 HP12 HQ12 HM12 HN12 HO12
  go_wp2_with fail
  refine hK.out _ _ (HG.out) (fun hHeld => ?_)
  clear hK K
  try simp only [Act.put, List.setIfInBounds_toArray, List.set_cons_zero, List.set_cons_succ]
  refine wpAnyH_strong HH.out _ _ _ _ ?_
  clear HS HG HH hHeld
  have HS := HX
  clear HX
  clear HO13
  refine wpAnyH_ready (rs := [24]) (by kernel_rfl) (by simp) ?_
  refine cons_drop (i := 24) rfl (fun K hK => ?_) AllReadyH.nil
  go_simp
  refine (pentroughref12_End.calls (fun _ => True) A0 c0' l0 on kd p o en _ (V_base (Kd.V_below HL13.out HS.out)) HF.out.red).mono ?_
  rintro e w14 ⟨v, rfl, hv, hb⟩
  have HG := Aside0.mk (HS.out.trans (hb.mono HS.out.size))
  have HH := Aside0.mk (show ∀ w_, Below w14.heap.size w14 w_ → Below w13.heap.size w13 w_ from fun w_ h_ => HG.out.trans (h_.mono HG.out.size))
  have HX := Aside0.mk (Below.refl w14.heap.size w14)
  have HB14 := Aside0.mk (HB13.out.trans (HG.out.mono HB13.out.size))
  have HK14 := Aside0.mk (blk_below HK13.out HG.out)
  have HY14 := Aside0.mk (blk_below HY13.out HG.out)
  have HZ14 := Aside0.mk (blk_below HZ13.out HG.out)
  have HL14 := Aside0.mk (Kd.V_below HL13.out HG.out)
  have HP14 := Aside0.mk (Kd.V_below HP13.out HG.out)
  have HQ14 := Aside0.mk (Kd.V_below HQ13.out HG.out)
  have HM14 := Aside0.mk (Kd.V_below HM13.out HG.out)
  have HN14 := Aside0.mk (Kd.V_below HN13.out HG.out)
  have HE14 := Aside0.mk (Kd.V_below HE13.out HG.out)
  obtain ⟨A23, c23, rfl⟩ := Kd.V_slice hv
  have HD14 := Aside0.mk (V_base (b' := 0) (Kd.V_mono (ok' := fun _ => True) hv (fun _ _ => trivial)))
  clear hv
  clear hb HB13 HK13 HY13 HZ13 HL13 HP13 HQ13 HM13 HN13 HE13
  go_wp2_with fail
  refine hK.out _ _ (HG.out) (fun hHeld => ?_)
  clear hK K
  try simp only [Act.put, List.setIfInBounds_toArray, List.set_cons_zero, List.set_cons_succ]
  refine wpAnyH_strong HH.out _ _ _ _ ?_
  clear HS HG HH hHeld
  have HS := HX
  clear HX
  refine wpAnyH_ready (rs := [25]) (by kernel_rfl) (by simp) ?_
  refine cons_drop (i := 25) rfl (fun K hK => ?_) AllReadyH.nil
  go_simp
  refine (pentroughref01_Same.calls 1000 A22 c22 en A23 c23 en true _ (V_C (Kd.V_below HE14.out HS.out)) (Kd.V_reads' HE14.out).2.1 (V_C (Kd.V_below HD14.out HS.out)) (Kd.V_reads' HD14.out).2.1 HF.out.se).mono ?_
  rintro e w15 ⟨rfl, hd⟩
  have hb := hd.below
  have HG := Aside0.mk (HS.out.trans (hb.mono HS.out.size))
  have HH := Aside0.mk (show ∀ w_, Below w15.heap.size w15 w_ → Below w14.heap.size w14 w_ from fun w_ h_ => HG.out.trans (h_.mono HG.out.size))
  have HX := Aside0.mk (Below.refl w15.heap.size w15)
  have HB15 := Aside0.mk (HB14.out.trans (HG.out.mono HB14.out.size))
  have HK15 := Aside0.mk (blk_below HK14.out HG.out)
  have HY15 := Aside0.mk (blk_below HY14.out HG.out)
  have HZ15 := Aside0.mk (blk_below HZ14.out HG.out)
  have HL15 := Aside0.mk (Kd.V_below HL14.out HG.out)
  have HP15 := Aside0.mk (Kd.V_below HP14.out HG.out)
  have HQ15 := Aside0.mk (Kd.V_below HQ14.out HG.out)
  have HM15 := Aside0.mk (Kd.V_below HM14.out HG.out)
  have HN15 := Aside0.mk (Kd.V_below HN14.out HG.out)
  have HE15 := Aside0.mk (Kd.V_below HE14.out HG.out)
  have HD15 := Aside0.mk (Kd.V_below HD14.out HG.out)
  clear hb HB14 HK14 HY14 HZ14 HL14 HP14 HQ14 HM14 HN14 HE14 HD14 hd
  go_wp2_with fail
  refine hK.out _ _ (HG.out) (fun hHeld => ?_)
  clear hK K
  try simp only [Act.put, List.setIfInBounds_toArray, List.set_cons_zero, List.set_cons_succ]
  refine wpAnyH_strong HH.out _ _ _ _ ?_
  clear HS HG HH hHeld
  have HS := HX
  clear HX
  clear HE15 HD15
  refine take_drop (i := 26) (v := ?_) rfl (by kernel_rfl) (by kernel_rfl) (by kernel_rfl) (fun _ _ _ h => h) (Or.inl ⟨by rfl, ?_⟩) HS.out ?_
  rotate_left
  · intro w_ hSw
    go_simp
    all_goals with_reducible rfl
  try simp only [Act.put, List.setIfInBounds_toArray, List.set_cons_zero, List.set_cons_succ]
  refine take_drop (i := 27) (v := ?_) rfl (by kernel_rfl) (by kernel_rfl) (by kernel_rfl) (fun _ _ _ h => h) (Or.inl ⟨by rfl, ?_⟩) HS.out ?_
  rotate_left
  · intro w_ hSw
    go_simp
    all_goals with_reducible rfl
  try simp only [Act.put, List.setIfInBounds_toArray, List.set_cons_zero, List.set_cons_succ]
  refine take_drop (i := 28) (v := ?_) rfl (by kernel_rfl) (by kernel_rfl) (by kernel_rfl) (fun _ _ _ h => h) (Or.inl ⟨by rfl, ?_⟩) HS.out ?_
  rotate_left
  · intro w_ hSw
    go_simp
    all_goals with_reducible rfl
  try simp only [Act.put, List.setIfInBounds_toArray, List.set_cons_zero, List.set_cons_succ]
  refine take_drop (i := 30) (v := ?_) rfl (by kernel_rfl) (by kernel_rfl) (by kernel_rfl) (fun _ _ _ h => h) (Or.inl ⟨by rfl, ?_⟩) HS.out ?_
  rotate_left
  · intro w_ hSw
    go_simp
    all_goals with_reducible rfl
  try simp only [Act.put, List.setIfInBounds_toArray, List.set_cons_zero, List.set_cons_succ]
  refine wpAnyH_ready (rs := [29]) (by kernel_rfl) (by simp) ?_
  refine cons_drop (i := 29) rfl (fun K hK => ?_) AllReadyH.nil
  go_simp
  refine (seg_All.calls A2 c2 l2 T _ (Kd.C_below HR2.out (HB15.out.trans (HS.out.mono HB15.out.size))) hc2 HF.out.al).mono ?_
  rintro e w16 ⟨v, rfl, hv, hb⟩
  have HG := Aside0.mk (HS.out.trans (hb.mono HS.out.size))
  have HH := Aside0.mk (show ∀ w_, Below w16.heap.size w16 w_ → Below w15.heap.size w15 w_ from fun w_ h_ => HG.out.trans (h_.mono HG.out.size))
  have HX := Aside0.mk (Below.refl w16.heap.size w16)
  have HB16 := Aside0.mk (HB15.out.trans (HG.out.mono HB15.out.size))
  have HK16 := Aside0.mk (blk_below HK15.out HG.out)
  have HY16 := Aside0.mk (blk_below HY15.out HG.out)
  have HZ16 := Aside0.mk (blk_below HZ15.out HG.out)
  have HL16 := Aside0.mk (Kd.V_below HL15.out HG.out)
  have HP16 := Aside0.mk (Kd.V_below HP15.out HG.out)
  have HQ16 := Aside0.mk (Kd.V_below HQ15.out HG.out)
  have HM16 := Aside0.mk (Kd.V_below HM15.out HG.out)
  have HN16 := Aside0.mk (Kd.V_below HN15.out HG.out)
  obtain ⟨A24, c24, rfl⟩ := Kd.V_slice hv
  have HE16 := Aside0.mk (V_base (b' := 0) (Kd.V_mono (ok' := fun _ => True) hv (fun _ _ => trivial)))
  clear hv
  clear hb HB15 HK15 HY15 HZ15 HL15 HP15 HQ15 HM15 HN15
  go_wp2_with fail
  refine hK.out _ _ (HG.out) (fun hHeld => ?_)
  clear hK K
  try simp only [Act.put, List.setIfInBounds_toArray, List.set_cons_zero, List.set_cons_succ]
  refine wpAnyH_strong HH.out _ _ _ _ ?_
  clear HS HG HH hHeld
  have HS := HX
  clear HX
  refine wpAnyH_ready (rs := [31]) (by kernel_rfl) (by simp) ?_
  refine cons_drop (i := 31) rfl (fun K hK => ?_) AllReadyH.nil
  go_simp
  refine (pentroughref12_All.calls 1000 A2 c2 l2 T _ (Kd.C_below HR2.out (HB16.out.trans (HS.out.mono HB16.out.size))) hc2 HF.out.ral).mono ?_
  rintro e w17 ⟨v, rfl, hv, hb⟩
  have HG := Aside0.mk (HS.out.trans (hb.mono HS.out.size))
  have HH := Aside0.mk (show ∀ w_, Below w17.heap.size w17 w_ → Below w16.heap.size w16 w_ from fun w_ h_ => HG.out.trans (h_.mono HG.out.size))
  have HX := Aside0.mk (Below.refl w17.heap.size w17)
  have HB17 := Aside0.mk (HB16.out.trans (HG.out.mono HB16.out.size))
  have HK17 := Aside0.mk (blk_below HK16.out HG.out)
  have HY17 := Aside0.mk (blk_below HY16.out HG.out)
  have HZ17 := Aside0.mk (blk_below HZ16.out HG.out)
  have HL17 := Aside0.mk (Kd.V_below HL16.out HG.out)
  have HP17 := Aside0.mk (Kd.V_below HP16.out HG.out)
  have HQ17 := Aside0.mk (Kd.V_below HQ16.out HG.out)
  have HM17 := Aside0.mk (Kd.V_below HM16.out HG.out)
  have HN17 := Aside0.mk (Kd.V_below HN16.out HG.out)
  have HE17 := Aside0.mk (Kd.V_below HE16.out HG.out)
  obtain ⟨A25, c25, rfl⟩ := Kd.N_slice hv
  have HD17 := Aside0.mk hv
  clear hv
  clear hb HB16 HK16 HY16 HZ16 HL16 HP16 HQ16 HM16 HN16 HE16
  go_wp2_with fail
  refine hK.out _ _ (HG.out) (fun hHeld => ?_)
  clear hK K
  try simp only [Act.put, List.setIfInBounds_toArray, List.set_cons_zero, List.set_cons_succ]
  refine wpAnyH_strong HH.out _ _ _ _ ?_
  clear HS HG HH hHeld
  have HS := HX
  clear HX
  refine wpAnyH_ready (rs := [32]) (by kernel_rfl) (by simp) ?_
  refine cons_drop (i := 32) rfl (fun K hK => ?_) AllReadyH.nil
  go_simp
  refine (pentroughref12_Same.calls 1000 A24 c24 T A25 c25 T true _ (V_C (Kd.V_below HE17.out HS.out)) (Kd.V_reads' HE17.out).2.1 (Kd.N_reads' (Kd.N_below HD17.out HS.out)).2.2 (Kd.N_reads' HD17.out).2.1 HF.out.st).mono ?_
  rintro e w18 ⟨rfl, hd⟩
  have hb := hd.below
  have HG := Aside0.mk (HS.out.trans (hb.mono HS.out.size))
  have HH := Aside0.mk (show ∀ w_, Below w18.heap.size w18 w_ → Below w17.heap.size w17 w_ from fun w_ h_ => HG.out.trans (h_.mono HG.out.size))
  have HX := Aside0.mk (Below.refl w18.heap.size w18)
  have HB18 := Aside0.mk (HB17.out.trans (HG.out.mono HB17.out.size))
  have HK18 := Aside0.mk (blk_below HK17.out HG.out)
  have HY18 := Aside0.mk (blk_below HY17.out HG.out)
  have HZ18 := Aside0.mk (blk_below HZ17.out HG.out)
  have HL18 := Aside0.mk (Kd.V_below HL17.out HG.out)
  have HP18 := Aside0.mk (Kd.V_below HP17.out HG.out)
  have HQ18 := Aside0.mk (Kd.V_below HQ17.out HG.out)
  have HM18 := Aside0.mk (Kd.V_below HM17.out HG.out)
  have HN18 := Aside0.mk (Kd.V_below HN17.out HG.out)
  have HE18 := Aside0.mk (Kd.V_below HE17.out HG.out)
  have HD18 := Aside0.mk (Kd.N_below HD17.out HG.out)
  clear hb HB17 HK17 HY17 HZ17 HL17 HP17 HQ17 HM17 HN17 HE17 HD17 hd
  go_wp2_with fail
  refine hK.out _ _ (HG.out) (fun hHeld => ?_)
  clear hK K
  try simp only [Act.put, List.setIfInBounds_toArray, List.set_cons_zero, List.set_cons_succ]
  refine wpAnyH_strong HH.out _ _ _ _ ?_
  clear HS HG HH hHeld
  have HS := HX
  clear HX
  refine take_drop (i := 33) (v := ?_) rfl (by kernel_rfl) (by kernel_rfl) (by kernel_rfl) (fun _ _ _ h => h) (Or.inl ⟨by rfl, ?_⟩) HS.out ?_
  rotate_left
  · intro w_ hSw
    go_simp
    all_goals with_reducible rfl
  try simp only [Act.put, List.setIfInBounds_toArray, List.set_cons_zero, List.set_cons_succ]
  refine take_drop (i := 34) (v := ?_) rfl (by kernel_rfl) (by kernel_rfl) (by kernel_rfl) (fun _ _ _ h => h) (Or.inl ⟨by rfl, ?_⟩) HS.out ?_
  rotate_left
  · intro w_ hSw
    go_simp
    all_goals with_reducible rfl
  try simp only [Act.put, List.setIfInBounds_toArray, List.set_cons_zero, List.set_cons_succ]
  refine wpAnyH_done (by kernel_rfl) ?_ _
  refine NoPanic.normal ?_
  have HE_ := Aside0.mk (HB18.out.trans (HS.out.mono HB18.out.size))
  clear HS HB18
  go_wp2
  go_ret
  exact ⟨rfl, HE_.out⟩
end Go.Proofs.Ytcabijajjceghaa.G

namespace Go.Proofs.Ytcabijajjceghaa.G
open Go.RowKit Go.Proofs.YtcabijajjceghaaW.PrintWords Go.Proofs.YtcabijajjceghaaW.PrintLast Go.Proofs.YtcabijajjceghaaW.PrintMore
set_option linter.unusedVariables false
set_option linter.unusedSimpArgs false
theorem same12i_loop (a : List (List Int)) (hl : a.length ≤ 200) (hx : ∀ x ∈ a, x.length ≤ 32) : ∀ (d i k : Nat), a.length = i + d → d + 40 < k → pentroughref12_Same.l0 k a a (i : Int) = some true := by
  intro d
  induction d with
  | zero =>
    intro i k hi hk
    obtain ⟨k, rfl⟩ : ∃ m, k = m + 1 := ⟨k - 1, by omega⟩
    rw [pentroughref12_Same.l0, if_neg (show ¬ ((i : Int) < (a.length : Int)) by omega)]
  | succ d ih =>
    intro i k hi hk
    obtain ⟨k, rfl⟩ : ∃ m, k = m + 1 := ⟨k - 1, by omega⟩
    have hlt : i < a.length := by omega
    have hrd : rd_L2 a (i : Int) = a[i] := by simp [rd_L2, hlt]
    have hb := hx a[i] (List.getElem_mem hlt)
    have f1 : (i : Int) < (a.length : Int) := by omega
    have f0 : (0 : Int) ≤ (i : Int) := by omega
    have hn := ih (i + 1) k (by omega) (by omega)
    have hs := same01 a[i] k (Nat.lt_of_le_of_lt hb (by decide)) (by omega)
    have hw : wrap64 ((i : Int) + 1) = ((i + 1 : Nat) : Int) := by unfold wrap64; omega
    rw [pentroughref12_Same.l0, hrd, hs, Option.bind_some, if_pos f1, if_pos f0, if_pos f1, if_pos rfl, hw]
    exact hn
theorem same12i (a : List (List Int)) (k : Nat) (hl : a.length ≤ 200) (hx : ∀ x ∈ a, x.length ≤ 32) (hk : a.length + 40 < k) : pentroughref12_Same.f k a a = some true := by
  unfold pentroughref12_Same.f
  rw [if_pos rfl]
  exact same12i_loop a hl hx a.length 0 k (by omega) hk

def endP (C : List Int) (s : CS) : List Int := if saneG C s then C else []
theorem end_is (C : List Int) (s : CS) : seg_End.f 1000 C s.on s.kind s.pict s.odd = some (endP C s) := by
  unfold seg_End.f endP
  rw [segSane_is 1000 C s (by decide), Option.bind_some]
  cases saneG C s <;> rfl
theorem rend_is (C : List Int) (s : CS) : pentroughref12_End.f C s.on s.kind s.pict s.odd = some (endP C s) := by
  unfold pentroughref12_End.f endP
  rw [rsegSane_is C s, Option.bind_some]
  cases saneG C s <;> rfl
theorem rall12_loop (x0 : List Int) (hx : x0.length ≤ 150) : ∀ (d i k : Nat) (C : List Int) (s : CS) (acc : List (List Int)), x0.length = i + d → acc.length ≤ i → saneG C s = true → d < k →
    pentroughref12_All.l0 k x0 acc (i : Int) C s.on s.kind s.pict s.odd = some (acc ++ allP C s (x0.drop i)) := by
  intro d
  induction d with
  | zero =>
    intro i k C s acc hi ha hs hk
    obtain ⟨k, rfl⟩ : ∃ m, k = m + 1 := ⟨k - 1, by omega⟩
    have g1 : acc.length < 5864062014805 := Nat.lt_of_le_of_lt (show acc.length ≤ 150 by omega) (by decide)
    rw [pentroughref12_All.l0, if_neg (show ¬ ((i : Int) < (x0.length : Int)) by omega), rend_is C s, Option.bind_some, List.drop_of_length_le (by omega), allP]
    unfold endP
    rw [if_pos hs]
    by_cases hC : C = []
    · subst hC
      simp
    · have : 0 < C.length := List.length_pos_iff.2 hC
      rw [if_pos (show (C.length : Int) > 0 by omega), if_pos g1, if_neg hC]
  | succ d ih =>
    intro i k C s acc hi ha hs hk
    obtain ⟨k, rfl⟩ : ∃ m, k = m + 1 := ⟨k - 1, by omega⟩
    have hlt : i < x0.length := by omega
    have hrd : rd x0 (i : Int) = x0[i] := by simp [rd, hlt]
    have f1 : (i : Int) < (x0.length : Int) := by omega
    have f0 : (0 : Int) ≤ (i : Int) := Int.natCast_nonneg _
    have g1 : acc.length < 5864062014805 := Nat.lt_of_le_of_lt (show acc.length ≤ 150 by omega) (by decide)
    have hw : wrap64 ((i : Int) + 1) = ((i + 1 : Nat) : Int) := by unfold wrap64; omega
    rw [pentroughref12_All.l0, if_pos f1, if_pos f0, hrd, hw, List.drop_eq_getElem_cons hlt, allP_cons C s _ _ hs]
    show (some (tup6 (feedP C s x0[i]))).bind _ = _
    rw [Option.bind_some]
    by_cases hf : fullP C.length s x0[i] = true
    · have hC : 0 < C.length := by
        simp only [fullP, Bool.and_eq_true, decide_eq_true_eq] at hf
        exact hf.1
      have hq : feedP C s x0[i] = ([x0[i]], nextS s x0[i], C) := by unfold feedP; rw [if_pos hs, if_pos hf]
      have hn := ih (i + 1) k [x0[i]] (nextS s x0[i]) (acc ++ [C]) (by omega) (by rw [List.length_append, List.length_singleton]; omega) (saneG_one s _) (by omega)
      rw [hq, if_pos hf]
      show (if (C.length : Int) > 0 then (if acc.length < 5864062014805 then pentroughref12_All.l0 k x0 (acc ++ [C]) ((i + 1 : Nat) : Int) [x0[i]] (nextS s x0[i]).on (nextS s x0[i]).kind (nextS s x0[i]).pict (nextS s x0[i]).odd else none) else _) = _
      rw [if_pos (show (C.length : Int) > 0 by omega), if_pos g1, hn, List.append_assoc, List.singleton_append]
    · have hf' : fullP C.length s x0[i] = false := by simpa using hf
      have hq : feedP C s x0[i] = (C ++ [x0[i]], nextS s x0[i], []) := by unfold feedP; rw [if_pos hs, if_neg hf]
      have hn := ih (i + 1) k (C ++ [x0[i]]) (nextS s x0[i]) acc (by omega) (by omega) (saneG_more C s _ hs hf') (by omega)
      rw [hq, if_neg hf]
      exact hn
theorem feed_len (C : List Int) (s : CS) (r : Int) (h : C.length ≤ 60) : (feedP C s r).1.length ≤ 61 ∧ (feedP C s r).2.2.length ≤ 60 := by
  unfold feedP
  split
  · split
    · simp; omega
    · simp; omega
  · simp
theorem seg_facts (l0 : List Int) (on : Bool) (kd : Int) (p o : Bool) (a1 : Int) (l2 : List Int) (h0 : l0.length ≤ 60) (h2 : l2.length ≤ 150) :
    SegFacts l0 on kd p o a1 l2 (feedP l0 ⟨on, kd, p, o⟩ a1).1 (feedP l0 ⟨on, kd, p, o⟩ a1).2.1.on (feedP l0 ⟨on, kd, p, o⟩ a1).2.1.kind (feedP l0 ⟨on, kd, p, o⟩ a1).2.1.pict (feedP l0 ⟨on, kd, p, o⟩ a1).2.1.odd (feedP l0 ⟨on, kd, p, o⟩ a1).2.2 (saneG l0 ⟨on, kd, p, o⟩) (endP l0 ⟨on, kd, p, o⟩) (allP [] c0 l2) := by
  obtain ⟨m1, m2⟩ := feed_len l0 ⟨on, kd, p, o⟩ a1 h0
  have me : (endP l0 ⟨on, kd, p, o⟩).length ≤ 60 := by
    unfold endP
    split
    · exact h0
    · exact Nat.zero_le _
  have small : ∀ l : List Int, l.length ≤ 61 → pentroughref01_Same.f 1000 l l = some true := fun l hl => same01 l 1000 (Nat.lt_of_le_of_lt hl (by decide)) (by omega)
  refine ⟨rfl, rfl, segSane_is 1000 l0 ⟨on, kd, p, o⟩ (by decide), rsegSane_is l0 ⟨on, kd, p, o⟩, ?_, small _ (by omega), end_is l0 ⟨on, kd, p, o⟩, rend_is l0 ⟨on, kd, p, o⟩, small _ (by omega), ?_, ?_, ?_⟩
  · unfold pentroughlaw12_same.f
    rw [small _ m1, Option.bind_some, if_pos rfl, if_pos (by simp), if_pos rfl, if_pos (by simp)]
    simp
  · unfold seg_All.f
    rw [if_pos (show l2.length ≤ 100000 by omega)]
  · have := rall12_loop l2 h2 l2.length 0 1000 [] c0 [] (by omega) (by simp) saneG_c0 (by omega)
    exact this
  · exact same12i _ 1000 (by have := count_allP l2; omega) (fun x hx => (len_allP l2 [] c0 saneG_c0 x hx).2) (by have := count_allP l2; omega)
theorem SegIs.calls (A0 : Option Addr) (c0' : Nat) (l0 : List Int) (on : Bool) (kd : Int) (p o : Bool) (a1 : Int) (A2 : Option Addr) (c2 : Nat) (l2 : List Int) (w : World) (hr0 : Kd.C (Kd.int .i64) w A0 l0.length l0) (hc0 : l0.length ≤ c0') (hr2 : Kd.C (Kd.int .i64) w A2 l2.length l2) (hc2 : l2.length ≤ c2) :
    Calls Try.prog 10 #[.agg #[.slice A0 l0.length c0', .bool on, .int .i64 kd, .bool p, .bool o], .int .i64 a1, .slice A2 l2.length c2] w fun e w' => e = .returned (.bool true) ∧ Below w.heap.size w w' := by
  by_cases h : 60 < l0.length ∨ 150 < l2.length
  · exact segis_long A0 c0' l0 on kd p o a1 A2 c2 l2 w h
  · exact segis_main A0 c0' l0 on kd p o a1 A2 c2 l2 _ _ _ _ _ _ _ _ _ w hr0 hc0 hr2 hc2 (by omega) (by omega) (seg_facts l0 on kd p o a1 l2 (by omega) (by omega))
end Go.Proofs.Ytcabijajjceghaa.G
namespace Go.Proofs.Ytcabijajjceghaa.segIs
open Go.ChangeShapes Go.WideShapes Go.ChangeAt Go.RowKit
open Go.ChangeMaps (open_string shut_string)
set_option linter.unusedVariables false
theorem own : ownKnob Try.prog.godebug = none := by kernel_rfl
theorem laidOut : laidOutB Try.prog = true := by kernel_rfl
def IsRow (k : IntKind) (w : World) (a : Option Addr) (len cap : Nat) (zs : List Int) : Prop :=
  (a = none ∧ len = 0 ∧ cap = 0 ∧ zs = []) ∨
  ∃ x, a = some x ∧ len ≤ cap ∧ cap ≤ maxLen ∧ zs.length = cap ∧ (∀ i, i < zs.length → w.cell? (x.add i) = some (.int k (zs.getD i 0))) ∧ ∀ n ∈ zs, (Lit.int k n).wf = true
theorem array5 {α : Type} {cs : Array α} (h : cs.size = 5) : ∃ c0 c1 c2 c3 c4, cs = #[c0, c1, c2, c3, c4] := by
  obtain ⟨l⟩ := cs
  match l, h with
  | [c0, c1, c2, c3, c4], _ => exact ⟨c0, c1, c2, c3, c4, rfl⟩
set_option maxRecDepth 100000 in
theorem lifted (os : Os) (started : os.Started) (H : Type) (enc : TypeId × Value → H) :
    ReturnsInHanded {} Try.checked os 10 .any (Rows.segIsSpec.pre6 enc Try.prog Try.f10 Rows.segIsRow.domain false) (Rows.segIsSpec.post enc Try.prog Try.f10 false true false false) := by
  refine returnsInHanded_of_change_sized (C := Try.checked) own started (by kernel_rfl) Try.func10
    (ChangeSpec.witness6 (enc := enc) (C := Try.checked) false ⟨#[], #[.agg #[.slice none 0 0, .bool false, .int .i64 0, .bool false, .bool false], .int .i64 0, .slice none 0 0], []⟩ 8 (by kernel_rfl) (by kernel_rfl) (by kernel_rfl) (by kernel_rfl)) ?_
  intro W base args ds gs before hval0 hW hcnd hsz0 _
  have hval : ∀ (j : Nat) t v, Try.f10.params[j]? = some t → args[j]? = some v → Value.okWide Try.prog W .any base t v := hval0
  have hW' := hW
  obtain ⟨p, q, hA0, hV, rfl, hfz, hnd⟩ := hW
  have hA : DataW.TrodAll enc Try.prog W 0 (fun _ => true) true Try.f10.params.toList args.toList ds p := hA0
  rw [Try.params10] at hA hval
  obtain ⟨v0, vs0, d0, ds0, p0, q0, hargs, rfl, rfl, h0, r0⟩ := trodAll_cons hA
  obtain ⟨v1, vs1, d1, ds1, p1, q1, rfl, rfl, rfl, h1, r1⟩ := trodAll_cons r0
  obtain ⟨v2, vs2, d2, ds2, p2, q2, rfl, rfl, rfl, h2, r2⟩ := trodAll_cons r1
  obtain ⟨rfl, rfl, rfl⟩ := trodAll_nil r2
  obtain rfl : args = #[v0, v1, v2] := by cases args; simp_all
  obtain ⟨rfl, rfl⟩ := trodVars_none hV
  have k0 := h0
  have lt0 : ∀ x ∈ p0, x.block < W.heap.size := by obtain ⟨m, hm⟩ := k0; exact DataW.trod_lt m _ _ _ hm
  obtain ⟨cs, rfl, hsz⟩ := okWide_struct Try.underlying48 (hval 0 48 v0 rfl rfl)
  obtain ⟨b0, b1, b2, b3, b4, rfl⟩ := array5 (hsz.trans (by kernel_rfl))
  obtain ⟨fuel0, hf0⟩ := h0
  obtain ⟨y0, ys, n0, hx0, _, g0, gs0⟩ := trod_struct2 Try.underlying48 hf0
  obtain ⟨y1, y2, y3, y4, n1, hx1, _, g1, g2, g3, g4⟩ := Joins.trod_struct4 Try.underlying46 gs0
  have c46 : Try.prog.cellsOf 46 = 4 := by kernel_rfl
  have c22 : Try.prog.cellsOf 22 = 1 := by kernel_rfl
  have c4 : Try.prog.cellsOf 4 = 1 := by kernel_rfl
  have c3 : Try.prog.cellsOf 3 = 1 := by kernel_rfl
  simp only [Value.cells, c46, c22, c4, c3, List.drop_zero, List.drop_succ_cons, List.take_succ_cons, List.take_zero, List.take_nil] at g0 g1 g2 g3 g4
  obtain ⟨x1, e1, rfl⟩ := DataW.trod_bool Try.underlying4 g1
  obtain ⟨x2, e2, rfl, w2'⟩ := DataW.trod_int Try.underlying3 g2
  obtain ⟨x3, e3, rfl⟩ := DataW.trod_bool Try.underlying4 g3
  obtain ⟨x4, e4, rfl⟩ := DataW.trod_bool Try.underlying4 g4
  simp only [List.cons.injEq, and_true] at e1 e2 e3 e4
  subst e1 e2 e3 e4
  obtain ⟨A0, len0, cap0, hb0⟩ := Joins.slice_form Try.underlying22 g0
  simp only [List.cons.injEq, and_true] at hb0
  subst hb0
  obtain ⟨a1, rfl, rfl, rfl, w1'⟩ := open_int Try.underlying3 (hval 1 3 v1 rfl rfl) h1
  obtain ⟨z0, w0⟩ : ∃ zs, IsRow .i64 W A0 len0 cap0 zs := by
    rcases open_ints Try.underlying22 Try.underlying3 (by kernel_rfl) g0 with ⟨hcs, _⟩ | ⟨x, l, c, zs, hcs, _, hl, hm, hz, _, hcell, hwz⟩
    · simp at hcs
      obtain ⟨rfl, rfl, rfl⟩ := hcs
      exact ⟨[], .inl ⟨rfl, rfl, rfl, rfl⟩⟩
    · simp at hcs
      obtain ⟨rfl, rfl, rfl⟩ := hcs
      exact ⟨zs, .inr ⟨_, rfl, hl, hm, by simpa using hz, hcell, hwz⟩⟩
  obtain ⟨A2, len2, cap2, rfl⟩ := okWide_slice Try.underlying22 (hval 2 22 v2 rfl rfl)
  have k2 := h2
  have lt2 : ∀ x ∈ p2, x.block < W.heap.size := by obtain ⟨m, hm⟩ := k2; exact DataW.trod_lt m _ _ _ hm
  obtain ⟨z2, w2⟩ : ∃ zs, IsRow .i64 W A2 len2 cap2 zs := by
    obtain ⟨fuel, hf⟩ := h2
    rcases open_ints Try.underlying22 Try.underlying3 (by kernel_rfl) hf with ⟨hcs, _⟩ | ⟨x, l, c, zs, hcs, _, hl, hm, hz, _, hcell, hwz⟩
    · simp [Value.cells] at hcs
      obtain ⟨rfl, rfl, rfl⟩ := hcs
      exact ⟨[], .inl ⟨rfl, rfl, rfl, rfl⟩⟩
    · simp [Value.cells] at hcs
      obtain ⟨rfl, rfl, rfl⟩ := hcs
      exact ⟨zs, .inr ⟨_, rfl, hl, hm, by simpa using hz, hcell, hwz⟩⟩
  clear hA0 hval0 hsz0
  obtain ⟨l0, rfl, hr0, hm0, hw0, hc0⟩ := YtcabijajjceghaaW.PrintWords.ReadsInt.ofRowC w0
  obtain ⟨l2, rfl, hr2, hm2, hw2, hc2⟩ := YtcabijajjceghaaW.PrintWords.ReadsInt.ofRowC w2
  refine (G.SegIs.calls _ _ l0 x1 x2 x3 x4 a1 _ _ l2 W (YtcabijajjceghaaW.PrintWords.Kd.C_of_reads (d := (0 : Int)) (h1 := fun _ => rfl) hr0) hc0 (YtcabijajjceghaaW.PrintWords.Kd.C_of_reads (d := (0 : Int)) (h1 := fun _ => rfl) hr2) hc2).mono fun e W' ⟨he, bel⟩ => ?_
  subst he
  exact ⟨_, rfl, _, _, _, [], _, [], hW', trodAll_mk1 (shut_bool Try.underlying4 _), (trodAll_cons_mk (Below.trod laidOut (by kernel_rfl) (of_decide_eq_true (by kernel_rfl)) k0 bel lt0) (trodAll_cons_mk (shut_int Try.underlying3 w1') (trodAll_cons_mk (Below.trod laidOut (by kernel_rfl) (of_decide_eq_true (by kernel_rfl)) k2 bel lt2) trodAll_mk0))), rfl, bel.frame _, fun h => by cases h⟩
theorem over : Rows.segIsRow.holds Try.pinned (OpenSpec.ofChange Rows.segIsSpec) :=
  OpenClaim.holds_of_wide 10 Try.f10 rfl rfl rfl rfl rfl rfl rfl ⟨rfl, rfl, rfl, rfl, rfl⟩ rfl rfl rfl rfl rfl (by kernel_rfl) Try.func10 (by kernel_rfl)
    (of_decide_eq_true (by kernel_rfl)) (by unfold Func.isWrapper; first | (rw [if_pos (by decide +kernel)]; kernel_rfl) | (rw [if_neg (by decide +kernel)]; exact ⟨rfl, rfl⟩))
    (fun os started H enc _ => lifted os started H enc)
theorem proved : Rows.SegIsSaid := over
#print axioms proved
end Go.Proofs.Ytcabijajjceghaa.segIs
namespace Go.Proofs.Ytcabijajjceghaa
/-- The row, under a short name, for the claim. -/
theorem segIs_holds : Rows.SegIsSaid := segIs.proved
end Go.Proofs.Ytcabijajjceghaa
