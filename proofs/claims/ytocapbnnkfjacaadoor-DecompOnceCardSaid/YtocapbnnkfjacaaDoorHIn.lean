/- The machine's side of prop.in, by hand: the binary search over a table of ranges that rise and lie apart says what the first fitting range says. No condition beyond the table's order. -/
import Derived.Test.YtocapbnnkfjacaaDoorG0
namespace Go.Proofs.YtocapbnnkfjacaaDoor.G
open Go.RowKit Go.Proofs.YtocapbnnkfjacaaDoorW.PrintWords Go.Proofs.YtocapbnnkfjacaaDoorW.PrintLast Go.Proofs.YtocapbnnkfjacaaDoorW.PrintMore
set_option linter.unusedVariables false
set_option linter.unusedSimpArgs false

def cmp3 (a b : Int) : Int := if a < b then -1 else if b < a then 1 else 0
theorem cmp3_neg (a b : Int) : (cmp3 a b < 0) = (a < b) := by unfold cmp3; split <;> (try split) <;> simp <;> omega
theorem cmp3_zero (a b : Int) : (cmp3 a b = 0) = (a = b) := by unfold cmp3; split <;> (try split) <;> simp <;> omega

theorem cmp3_beq (a b : Int) : (cmp3 a b == 0) = decide (a = b) := by unfold cmp3; by_cases h : a < b <;> by_cases h2 : b < a <;> simp [h, h2] <;> omega

theorem isNaN_int (a : Int) (w : World) : Calls Tryd.prog 48 #[.int .i64 a] w fun e w' => e = .returned (.bool false) ∧ w = w' := by
  have h : (a != a) = false := by simp
  go_enter Tryd.func48, Tryd.ntmps48
  go_wp2
  go_ret
  exact ⟨by simp, rfl⟩

theorem cmp_int (a b : Int) (w : World) : Calls Tryd.prog 33 #[.int .i64 a, .int .i64 b] w fun e w' => e = .returned (.int .i64 (cmp3 a b)) ∧ w = w' := by
  go_enter Tryd.func33, Tryd.ntmps33
  go_wp2_with (go_at_call 48; refine (isNaN_int _ _).mono ?_; rintro e w' ⟨rfl, rfl⟩)
  · have hlt : a < b := by assumption
    go_ret
    exact ⟨by simp [cmp3, hlt], rfl⟩
  · have hlt : b < a := by assumption
    go_ret
    exact ⟨by simp [cmp3, hlt, show ¬ a < b by omega], rfl⟩
  · have h1 : b ≤ a := by assumption
    have h2 : a ≤ b := by assumption
    go_ret
    exact ⟨by simp [cmp3, show ¬ a < b by omega, show ¬ b < a by omega], rfl⟩

/-- The closure: a range against a value. -/
theorem in1_calls (x y z r : Int) (w : World) : Calls Tryd.prog 32 #[.agg #[.int .i64 x, .int .i64 y, .int .i64 z], .int .i64 r] w fun e w' => e = .returned (.int .i64 (cmp3 x r)) ∧ Below w.heap.size w w' := by
  go_enter Tryd.func32, Tryd.ntmps32
  go_wp2_with (go_at_call 33; refine (cmp_int _ _ _).mono ?_; rintro e w' ⟨rfl, rfl⟩)
  go_ret
  exact ⟨rfl, (Below.refl _ _).alloc (Nat.le_refl _) _⟩

/-- What the search knows: all ahead of lo are below r, none from hi on. -/
def Cut (l : List S37) (r : Int) (lo hi : Int) : Prop := (∀ t : Int, 0 ≤ t → t < lo → (rd_T37 l t).f0 < r) ∧ (∀ t : Int, hi ≤ t → t < l.length → r ≤ (rd_T37 l t).f0)
def Inc (l : List S37) : Prop := ∀ s t : Int, 0 ≤ s → s < t → t < l.length → (rd_T37 l s).f0 < (rd_T37 l t).f0

theorem cut_up {l : List S37} {r lo hi m : Int} (hI : Inc l) (h : Cut l r lo hi) (h0 : 0 ≤ m) (h1 : m < l.length) (hm : (rd_T37 l m).f0 < r) : Cut l r (m + 1) hi :=
  ⟨fun t a b => by
    by_cases e : t = m
    · rw [e]; exact hm
    · have := hI t m a (by omega) h1
      omega, h.2⟩
theorem cut_down {l : List S37} {r lo hi m : Int} (hI : Inc l) (h : Cut l r lo hi) (h0 : 0 ≤ m) (h1 : m < l.length) (hm : ¬ (rd_T37 l m).f0 < r) : Cut l r lo m :=
  ⟨h.1, fun t a b => by
    by_cases e : t = m
    · rw [e]; omega
    · have := hI m t h0 (by omega) b
      omega⟩

def Found (l : List S37) (r : Int) (w : World) (e : Ending) (w' : World) : Prop :=
  ∃ k : Int, 0 ≤ k ∧ k ≤ l.length ∧ e = .returned (.tuple #[.int .i64 k, .bool (decide (k < l.length) && decide ((rd_T37 l k).f0 = r))]) ∧ Cut l r k k ∧ Below w.heap.size w w'

set_option maxHeartbeats 1000000 in
set_option maxRecDepth 100000 in
theorem search_calls (A0 : Option Addr) (c0 : Nat) (l : List S37) (r : Int) (w : World) (hr0 : Kd.C k37 w A0 l.length l) (hc0 : l.length ≤ c0) (hi0 : Inc l) (hm : (l.length : Int) ≤ 1000) :
    Calls Tryd.prog 31 #[.slice A0 l.length c0, .int .i64 r, .func (.func 32) #[] #[]] w (Found l r w) := by
  have HR0 := Aside0.mk hr0
  have HI0 := Aside0.mk hi0
  clear hr0 hc0 hi0
  go_enter Tryd.func31, Tryd.ntmps31
  go_wp2
  go_loopg [9, 10] l.length (fun kx s9 s10 wr => ∃ lo hi : Int, s9 = .int .i64 lo ∧ s10 = .int .i64 hi ∧ 0 ≤ lo ∧ lo ≤ hi ∧ hi ≤ l.length ∧ hi - lo ≤ kx ∧ Aside0 (Below w.heap.size w wr) ∧ Aside0 (Cut l r lo hi))
  case atStart => exact ⟨0, l.length, rfl, rfl, by omega, by omega, by omega, by omega, ⟨Below.refl _ _⟩, ⟨⟨fun t h0 h1 => absurd h1 (by omega), fun t h0 h1 => absurd h1 (by omega)⟩⟩⟩
  case round =>
    obtain ⟨lo, hi, rfl, rfl, h0, h1, h2, h3, HB, HX⟩ := hrel
    by_cases hlt : lo < hi
    · have HR := Aside0.mk (Kd.C_below HR0.out HB.out)
      obtain ⟨ad, e0, hx0, hx1, hx2⟩ := at_T37 HR.out ((lo + hi) / 2) (by omega) (by omega)
      cases e0
      by_cases hc : (rd_T37 l ((lo + hi) / 2)).f0 < r
      · have hd : cmp3 (rd_T37 l ((lo + hi) / 2)).f0 r < 0 := by rw [cmp3_neg]; exact hc
        go_wp2_with (go_at_call 32; refine (in1_calls _ _ _ _ _).mono ?_; rintro e w' ⟨rfl, hB⟩)
        go_roundg (hi - ((lo + hi) / 2 + 1)).toNat
        case measure => omega
        case rel => exact ⟨(lo + hi) / 2 + 1, hi, rfl, rfl, by omega, by omega, by omega, by omega, ⟨HB.out.trans (hB.mono HB.out.size)⟩, ⟨cut_up HI0.out HX.out (by omega) (by omega) hc⟩⟩
      · have hd : ¬ cmp3 (rd_T37 l ((lo + hi) / 2)).f0 r < 0 := by rw [cmp3_neg]; exact hc
        go_wp2_with (go_at_call 32; refine (in1_calls _ _ _ _ _).mono ?_; rintro e w' ⟨rfl, hB⟩)
        go_roundg ((lo + hi) / 2 - lo).toNat
        case measure => omega
        case rel => exact ⟨lo, (lo + hi) / 2, rfl, rfl, by omega, by omega, by omega, by omega, ⟨HB.out.trans (hB.mono HB.out.size)⟩, ⟨cut_down HI0.out HX.out (by omega) (by omega) (by omega)⟩⟩
    · obtain rfl : hi = lo := by omega
      by_cases hn : hi < l.length
      · have HR := Aside0.mk (Kd.C_below HR0.out HB.out)
        obtain ⟨ad, e0, hx0, hx1, hx2⟩ := at_T37 HR.out hi (by omega) (by omega)
        cases e0
        go_wp2_with (go_at_call 32; refine (in1_calls _ _ _ _ _).mono ?_; rintro e w' ⟨rfl, hB⟩)
        go_ret2
        exact ⟨hi, h0, h2, by simp [cmp3_beq, hn], HX.out, HB.out.trans (hB.mono HB.out.size)⟩
      · go_wp2
        go_ret2
        exact ⟨hi, h0, h2, by simp; omega, HX.out, HB.out⟩

/-- The table rises, and its ranges lie apart. -/
def okB : List S37 → Bool
  | [] => true
  | [x] => decide (x.f0 ≤ x.f1)
  | x :: y :: t => decide (x.f0 ≤ x.f1) && decide (x.f1 < y.f0) && okB (y :: t)
def hitB (r : Int) (x : S37) : Bool := decide (x.f0 ≤ r) && decide (r ≤ x.f1)
def prop_in.f (l0 : List (S37)) (a1 : Int) : Option (Int × Int × Int × Bool) :=
  if okB l0 && decide (l0.length ≤ 1000) then
    match l0.find? (hitB a1) with
    | some x => some (x.f0, x.f1, x.f2, true)
    | none => some (0, 0, 0, false)
  else none

theorem okB_at : ∀ (l : List S37), okB l = true → ∀ (t : Nat) (h : t < l.length), l[t].f0 ≤ l[t].f1 ∧ ∀ h2 : t + 1 < l.length, l[t].f1 < l[t + 1].f0
  | [], _, t, h => absurd h (by simp)
  | [x], hk, t, h => by
    simp [okB] at hk
    obtain rfl : t = 0 := by simp at h; omega
    exact ⟨by simpa using hk, fun h2 => absurd h2 (by simp)⟩
  | x :: y :: l, hk, t, h => by
    simp [okB] at hk
    cases t with
    | zero => exact ⟨by simpa using hk.1.1, fun _ => by simpa using hk.1.2⟩
    | succ t =>
      have := okB_at (y :: l) hk.2 t (by simpa using h)
      simpa using this
theorem okB_far (l : List S37) (hk : okB l = true) (s : Nat) : ∀ (t : Nat), s < t → ∀ (h : t < l.length) (hs : s < l.length), l[s].f1 < l[t].f0 := by
  intro t
  induction t with
  | zero => intro h; omega
  | succ t ih =>
    intro hst h hs
    by_cases e : s = t
    · subst e; exact (okB_at l hk s hs).2 h
    · have a := ih (by omega) (by omega) hs
      have b := okB_at l hk t (by omega)
      have := b.2 h
      omega
theorem rd_nat (l : List S37) (t : Nat) (h : t < l.length) : rd_T37 l t = l[t] := by simp [rd_T37, h]
theorem inc_of_ok (l : List S37) (hk : okB l = true) : Inc l := by
  intro s t h0 h1 h2
  obtain ⟨s, rfl⟩ := Int.eq_ofNat_of_zero_le h0
  obtain ⟨t, rfl⟩ := Int.eq_ofNat_of_zero_le (show 0 ≤ t by omega)
  rw [rd_nat l s (by omega), rd_nat l t (by omega)]
  have a := okB_far l hk s t (by omega) (by omega) (by omega)
  have b := (okB_at l hk s (by omega)).1
  omega
theorem find_at {p : S37 → Bool} : ∀ (l : List S37) (k : Nat) (h : k < l.length), (∀ t (ht : t < l.length), t < k → p l[t] = false) → p l[k] = true → l.find? p = some l[k]
  | [], k, h, _, _ => absurd h (by simp)
  | x :: l, 0, _, _, hp => by simp at hp; simp [List.find?, hp]
  | x :: l, k + 1, h, hn, hp => by
    have h0 := hn 0 (by simp) (by omega)
    simp at h0
    have := find_at l k (by simpa using h) (fun t ht h1 => by have := hn (t + 1) (by simpa using ht) (by omega); simpa using this) (by simpa using hp)
    simp [List.find?, h0, this]
theorem find_not {p : S37 → Bool} (l : List S37) (h : ∀ t (ht : t < l.length), p l[t] = false) : l.find? p = none := by
  rw [List.find?_eq_none]
  intro x hx
  obtain ⟨t, ht, rfl⟩ := List.getElem_of_mem hx
  simp [h t ht]
/-- Behind the search: at k is the last range that begins at r or ahead of it, if one does. -/
theorem hit_at (l : List S37) (r k : Int) (hk : okB l = true) (hc : Cut l r k k) (h0 : 0 ≤ k) (h1 : k ≤ l.length) (j : Int) (hj : j = if (decide (k < l.length) && decide ((rd_T37 l k).f0 = r)) = true then k else k - 1) :
    l.find? (hitB r) = if j < 0 then none else if (rd_T37 l j).f1 < r then none else some (rd_T37 l j) := by
  obtain ⟨k, rfl⟩ := Int.eq_ofNat_of_zero_le h0
  have hlo : ∀ t (ht : t < l.length), t < k → l[t].f0 < r := fun t ht h => by have := hc.1 t (by omega) (by omega); rwa [rd_nat l t ht] at this
  have hhi : ∀ t (ht : t < l.length), k ≤ t → r ≤ l[t].f0 := fun t ht h => by have := hc.2 t (by omega) (by omega); rwa [rd_nat l t ht] at this
  by_cases hf : (decide ((k : Int) < l.length) && decide ((rd_T37 l k).f0 = r)) = true
  · rw [if_pos hf] at hj
    subst hj
    simp at hf
    have hk1 : k < l.length := by omega
    have hv := hf.2
    rw [rd_nat l k hk1] at hv ⊢
    have ho := (okB_at l hk k hk1).1
    rw [if_neg (by omega), if_neg (by omega)]
    refine find_at l k hk1 (fun t ht h => ?_) (by simp [hitB]; omega)
    have := okB_far l hk t k h hk1 ht
    simp [hitB]; omega
  · rw [if_neg hf] at hj
    subst hj
    simp at hf
    by_cases hz : k = 0
    · subst hz
      rw [if_pos (by omega)]
      refine find_not l fun t ht => ?_
      have := hhi t ht (by omega)
      have h2 : t = 0 → l[t].f0 ≠ r := fun e => by
        subst e
        have := hf (by omega)
        rwa [rd_nat l 0 ht] at this
      have h3 : 0 < t → l[0].f0 < l[t].f0 := fun h => by
        have a := okB_far l hk 0 t h ht (by omega)
        have b := (okB_at l hk 0 (by omega)).1
        omega
      have h4 := hhi 0 (by omega) (by omega)
      simp [hitB]
      by_cases e : t = 0
      · have := h2 e; omega
      · have := h3 (by omega); omega
    · have hj : ((k : Int) - 1) = ((k - 1 : Nat) : Int) := by omega
      rw [hj, rd_nat l (k - 1) (by omega), if_neg (by omega)]
      have hl := hlo (k - 1) (by omega) (by omega)
      have hbe : ∀ t (ht : t < l.length), t < k - 1 → hitB r l[t] = false := fun t ht h => by
        have := okB_far l hk t (k - 1) h (by omega) ht
        simp [hitB]; omega
      have hup : ∀ t (ht : t < l.length), k ≤ t → hitB r l[t] = false := fun t ht h => by
        have hr := hhi t ht h
        have hne : l[t].f0 ≠ r := by
          intro e
          by_cases ek : t = k
          · subst ek
            have := hf (by omega)
            rw [rd_nat l t ht] at this
            exact this e
          · have a := okB_far l hk k t (by omega) ht (by omega)
            have b := (okB_at l hk k (by omega)).1
            have c := hhi k (by omega) (by omega)
            omega
        simp [hitB]; omega
      split
      · rename_i hgt
        refine find_not l fun t ht => ?_
        by_cases e1 : t < k - 1
        · exact hbe t ht e1
        · by_cases e2 : k ≤ t
          · exact hup t ht e2
          · obtain rfl : t = k - 1 := by omega
            simp [hitB]; omega
      · rename_i hle
        exact find_at l (k - 1) (by omega) hbe (by simp [hitB]; omega)

theorem bcell {W w1 : World} (hb : Below W.heap.size W w1) : (∀ b o, b < W.heap.size → w1.cell? ⟨b, o, none⟩ = W.cell? ⟨b, o, none⟩) ∧ (∀ b o, b < W.heap.size → w1.frozen? ⟨b, o, none⟩ = W.frozen? ⟨b, o, none⟩) :=
  ⟨fun b o h => hb.cell (p := ⟨b, o, none⟩) h, fun b o h => hb.frozen (p := ⟨b, o, none⟩) h⟩

set_option maxHeartbeats 1000000 in
set_option maxRecDepth 100000 in
theorem prop_in.calls (A0 : Option Addr) (c0 : Nat) (l0 : List (S37)) (a1 : Int) (r1 : Int) (r2 : Int) (r3 : Int) (r4 : Bool) (w : World) (hr0 : Kd.C k37 w A0 l0.length l0) (hc0 : l0.length ≤ c0) (h : prop_in.f l0 a1 = some (r1, r2, r3, r4)) :
    Calls Tryd.prog 22 #[.slice A0 l0.length c0, .int .i64 a1] w fun e w' => e = .returned (.tuple #[.agg #[.int .i64 r1, .int .i64 r2, .int .i64 r3], .bool r4]) ∧ Below w.heap.size w w' := by
  unfold prop_in.f at h
  by_cases hok : (okB l0 && decide (l0.length ≤ 1000)) = true
  rotate_left
  · rw [if_neg hok] at h; cases h
  rw [if_pos hok] at h
  simp at hok
  have HR0 := Aside0.mk hr0
  have HC0 := Aside0.mk hc0
  have HO := Aside0.mk hok.1
  have hm : (l0.length : Int) ≤ 1000 := by omega
  have H := Aside0.mk h
  clear hr0 hc0 hok h
  have S := fun W (hb : Below w.heap.size w W) => search_calls A0 c0 l0 a1 W (Kd.C_below HR0.out hb) HC0.out (inc_of_ok _ HO.out) hm
  have SS := Aside0.mk S
  clear S
  go_enter Tryd.func22, Tryd.ntmps22
  go_wp2_with fail
  refine (SS.out _ ((Below.refl _ _).alloc (Nat.le_refl _) _)).mono ?_
  rintro e w' ⟨k, hk0, hk1, rfl, hct, hB⟩
  have HB := Aside0.mk (((Below.refl w.heap.size w).alloc (Nat.le_refl _) _).trans (hB.mono (by simp)))
  have HT := Aside0.mk (hit_at l0 a1 k HO.out hct hk0 hk1 _ rfl)
  obtain ⟨hc, hf⟩ := bcell hB
  have hz : w.heap.size < w'.heap.size := by have := hB.size; simp at this; omega
  clear hct hB
  clear SS
  generalize hb : (decide (k < l0.length) && decide ((rd_T37 l0 k).f0 = a1)) = b at *
  cases b with
  | true =>
    have HT2 := Aside0.mk (show l0.find? (hitB a1) = if k < 0 then none else if (rd_T37 l0 k).f1 < a1 then none else some (rd_T37 l0 k) from HT.out)
    clear HT
    have hk : k < l0.length := by simp at hb; omega
    clear hb
    obtain ⟨ad, e, hx0, hx1, hx2⟩ := at_T37 (Kd.C_below HR0.out HB.out) k hk0 hk
    cases e
    by_cases hg : (rd_T37 l0 k).f1 < a1
    · go_wp2
      have H2 := H.out
      rw [HT2.out, if_neg (by omega), if_pos (by omega)] at H2
      simp at H2
      obtain ⟨rfl, rfl, rfl, rfl⟩ := H2
      exact bodyPost_ret (v := .tuple #[.agg #[.int .i64 0, .int .i64 0, .int .i64 0], .bool false]) (by simp [results, Tryd.results22, go_sem, hc, hz]) rfl ⟨rfl, ((HB.out.setCell (by simp) _).setCell (by simp) _).setCell (by simp) _⟩
    · go_wp2
      have H2 := H.out
      rw [HT2.out, if_neg (by omega), if_neg (by omega)] at H2
      simp at H2
      obtain ⟨rfl, rfl, rfl, rfl⟩ := H2
      exact bodyPost_ret (v := .tuple #[.agg #[.int .i64 (rd_T37 l0 k).f0, .int .i64 (rd_T37 l0 k).f1, .int .i64 (rd_T37 l0 k).f2], .bool true]) (by simp [results, Tryd.results22, go_sem, hc, hz]) rfl ⟨rfl, ((HB.out.setCell (by simp) _).setCell (by simp) _).setCell (by simp) _⟩
  | false =>
    have HT2 := Aside0.mk (show l0.find? (hitB a1) = if k - 1 < 0 then none else if (rd_T37 l0 (k - 1)).f1 < a1 then none else some (rd_T37 l0 (k - 1)) from HT.out)
    clear HT hb
    by_cases hk : k - 1 < 0
    · go_wp2
      have H2 := H.out
      rw [HT2.out, if_pos (by omega)] at H2
      simp at H2
      obtain ⟨rfl, rfl, rfl, rfl⟩ := H2
      exact bodyPost_ret (v := .tuple #[.agg #[.int .i64 0, .int .i64 0, .int .i64 0], .bool false]) (by simp [results, Tryd.results22, go_sem, hc, hz]) rfl ⟨rfl, ((HB.out.setCell (by simp) _).setCell (by simp) _).setCell (by simp) _⟩
    obtain ⟨ad, e, hx0, hx1, hx2⟩ := at_T37 (Kd.C_below HR0.out HB.out) (k - 1) (by omega) (by omega)
    cases e
    rw [show (k - 1).toNat = k.toNat - 1 by omega] at hx0 hx1 hx2
    by_cases hg : (rd_T37 l0 (k - 1)).f1 < a1
    · go_wp2
      have H2 := H.out
      rw [HT2.out, if_neg (by omega), if_pos (by omega)] at H2
      simp at H2
      obtain ⟨rfl, rfl, rfl, rfl⟩ := H2
      exact bodyPost_ret (v := .tuple #[.agg #[.int .i64 0, .int .i64 0, .int .i64 0], .bool false]) (by simp [results, Tryd.results22, go_sem, hc, hz]) rfl ⟨rfl, ((HB.out.setCell (by simp) _).setCell (by simp) _).setCell (by simp) _⟩
    · go_wp2
      have H2 := H.out
      rw [HT2.out, if_neg (by omega), if_neg (by omega)] at H2
      simp at H2
      obtain ⟨rfl, rfl, rfl, rfl⟩ := H2
      exact bodyPost_ret (v := .tuple #[.agg #[.int .i64 (rd_T37 l0 (k - 1)).f0, .int .i64 (rd_T37 l0 (k - 1)).f1, .int .i64 (rd_T37 l0 (k - 1)).f2], .bool true]) (by simp [results, Tryd.results22, go_sem, hc, hz]) rfl ⟨rfl, ((HB.out.setCell (by simp) _).setCell (by simp) _).setCell (by simp) _⟩

end Go.Proofs.YtocapbnnkfjacaaDoor.G
