/- Little is kept: of any state and value, what package seg keeps and tells. No condition. -/
import Derived.Test.YtcabijajjceghaaG35
import Derived.Test.YtcabijajjceghaaG16
import Derived.Test.YtcabijajjceghaaSegP
namespace Go.Proofs.Ytcabijajjceghaa.Pure
open Go.RowKit Go.Proofs.Ytcabijajjceghaa.G Go.Proofs.YtcabijajjceghaaW.PrintWords Go.Proofs.YtcabijajjceghaaW.PrintLast

theorem awake12k : pentroughlaw12_awake.f 1000 = some true := by decide +kernel
theorem wk (n : Nat) (h : n ≤ 100) : wrap64 ((n : Int) + 1) = ((n + 1 : Nat) : Int) := by unfold wrap64; omega
theorem wl (n : Nat) (h : n ≤ 100) : wrap64 (((n + 1 : Nat) : Int) - 1) = (n : Int) := by unfold wrap64; omega
theorem keeps_of (C : List Int) (a1 : Bool) (a2 : Int) (a3 a4 : Bool) (r : Int) (C2 : List Int) (s2 : CS) (c2 : List Int) (n : Nat) (hl : C.length ≤ 60) (hF : feedP C ⟨a1, a2, a3, a4⟩ r = (C2, s2, c2)) (hlen : C2.length = n + 1) (hn : n ≤ 100) (hs : saneG C2 s2 = true)
    (hlast : rd C2 (n : Int) = r) (hj : pentroughlaw12_SegKeeps.j0 1000 true c2 false C a1 a2 a3 a4 C2 s2.on s2.kind s2.pict s2.odd = some true) : pentroughlaw12_SegKeeps.f 1000 C a1 a2 a3 a4 r = some true := by
  have hf : seg_Feed.f C a1 a2 a3 a4 r = some (C2, s2.on, s2.kind, s2.pict, s2.odd, c2) := by
    show some (tup6 (feedP C ⟨a1, a2, a3, a4⟩ r)) = _
    rw [hF]
    rfl
  have h1 : seg_Sane.f 1000 C2 s2.on s2.kind s2.pict s2.odd = some true := by rw [segSane_is 1000 C2 s2 (by decide), hs]
  have hw : wrap64 ((C2.length : Int) - 1) = (n : Int) := by rw [hlen]; exact wl n hn
  have e2 : (rd C2 (n : Int) != r) = false := by rw [hlast]; simp
  have p1 : ¬ ((C2.length : Int) < 1) := by omega
  have p0 : (0 : Int) ≤ (n : Int) := by omega
  have p2 : (n : Int) < (C2.length : Int) := by omega
  have H : ((seg_Sane.f 1000 C2 s2.on s2.kind s2.pict s2.odd).bind fun t400 => (if t400 = true then (if (C2.length : Int) < 1 then (pentroughlaw12_SegKeeps.j0 1000 true c2 true C a1 a2 a3 a4 C2 s2.on s2.kind s2.pict s2.odd) else (if 0 ≤ (wrap64 ((C2.length : Int) - 1)) then (if (wrap64 ((C2.length : Int) - 1)) < (C2.length : Int) then (pentroughlaw12_SegKeeps.j0 1000 true c2 ((rd C2 (wrap64 ((C2.length : Int) - 1))) != r) C a1 a2 a3 a4 C2 s2.on s2.kind s2.pict s2.odd) else (none)) else (none))) else (pentroughlaw12_SegKeeps.j0 1000 true c2 true C a1 a2 a3 a4 C2 s2.on s2.kind s2.pict s2.odd))) = some true := by
    rw [h1, Option.bind_some, if_pos rfl, hw, if_neg p1, if_pos p0, if_pos p2, e2]
    exact hj
  unfold pentroughlaw12_SegKeeps.f
  rw [awake12k, Option.bind_some, if_neg (show ¬ ((C.length : Int) > 60) by omega)]
  have ho : pentroughlaw12_ours.f C a1 a2 a3 a4 = some (C, a1, a2, a3, a4) := rfl
  rw [ho, Option.bind_some]
  show (seg_Feed.f C a1 a2 a3 a4 r).bind _ = some true
  rw [hf]
  exact H

theorem SegKeeps (C : List Int) (a1 : Bool) (a2 : Int) (a3 a4 : Bool) (r : Int) : ∃ k, pentroughlaw12_SegKeeps.f k C a1 a2 a3 a4 r = some true := by
  refine ⟨1000, ?_⟩
  by_cases h : (C.length : Int) > 60
  · unfold pentroughlaw12_SegKeeps.f
    rw [awake12k, Option.bind_some, if_pos h]
  have hl : C.length ≤ 60 := by omega
  clear h
  have ho : pentroughlaw12_ours.f C a1 a2 a3 a4 = some (C, a1, a2, a3, a4) := rfl
  have hso : ∀ k, 1 ≤ k → seg_Sane.f k C a1 a2 a3 a4 = some (saneG C ⟨a1, a2, a3, a4⟩) := fun k hk => segSane_is k C ⟨a1, a2, a3, a4⟩ hk
  have q3 : ¬ ((([] : List Int).length : Int) > 0) := by simp
  by_cases hs : saneG C ⟨a1, a2, a3, a4⟩ = true
  · rw [hs] at hso
    by_cases hfu : fullP C.length ⟨a1, a2, a3, a4⟩ r = true
    · have hC : 0 < C.length := by
        simp only [fullP, Bool.and_eq_true, decide_eq_true_eq] at hfu
        exact hfu.1
      refine keeps_of C a1 a2 a3 a4 r [r] _ C 0 hl (by unfold feedP; rw [if_pos hs, if_pos hfu]) rfl (by omega) (saneG_one _ r) (by simp [rd]) ?_
      generalize nextS ⟨a1, a2, a3, a4⟩ r = s2 at *
      have p3 : (C.length : Int) > 0 := by omega
      have p4 : (([r] : List Int).length : Int) = 1 := by simp
      rw [pentroughlaw12_SegKeeps.j0, if_neg (show ¬ (false = true) by simp), if_pos p3, if_pos rfl, if_pos p4, same01 C 999 (Nat.lt_of_le_of_lt hl (by decide)) (by omega), Option.bind_some, if_pos rfl, ho, Option.bind_some]
      show (seg_Sane.f 999 C a1 a2 a3 a4).bind _ = some true
      rw [hso 999 (by decide)]
      rfl
    · have hfu' : fullP C.length ⟨a1, a2, a3, a4⟩ r = false := by simpa using hfu
      refine keeps_of C a1 a2 a3 a4 r (C ++ [r]) _ [] C.length hl (by unfold feedP; rw [if_pos hs, if_neg hfu]) (by simp) (by omega) (saneG_more C _ r hs hfu') (by simp [rd]) ?_
      generalize nextS ⟨a1, a2, a3, a4⟩ r = s2 at *
      have e0 : (C ++ [r]).length = C.length + 1 := by simp
      have e9 : (((C ++ [r]).length : Int) == wrap64 ((C.length : Int) + 1)) = true := by rw [wk C.length (by omega), e0]; simp
      rw [pentroughlaw12_SegKeeps.j0, if_neg (show ¬ (false = true) by simp), if_neg q3, if_pos rfl, ho, Option.bind_some]
      show (seg_Sane.f 999 C a1 a2 a3 a4).bind _ = some true
      rw [hso 999 (by decide), Option.bind_some, if_pos rfl, Option.bind_some]
      show (seg_Sane.f 999 C a1 a2 a3 a4).bind _ = some true
      rw [hso 999 (by decide), Option.bind_some, if_pos rfl, e9]
  · have hs' : saneG C ⟨a1, a2, a3, a4⟩ = false := by simpa using hs
    rw [hs'] at hso
    refine keeps_of C a1 a2 a3 a4 r [r] _ [] 0 hl (by unfold feedP; rw [if_neg hs]) rfl (by omega) (saneG_one _ r) (by simp [rd]) ?_
    generalize nextS c0 r = s2 at *
    have p4 : (([r] : List Int).length : Int) = 1 := by simp
    rw [pentroughlaw12_SegKeeps.j0, if_neg (show ¬ (false = true) by simp), if_neg q3, if_pos rfl, ho, Option.bind_some]
    show (seg_Sane.f 999 C a1 a2 a3 a4).bind _ = some true
    rw [hso 999 (by decide), Option.bind_some, if_neg (show ¬ (false = true) by simp), if_pos p4]
end Go.Proofs.Ytcabijajjceghaa.Pure
