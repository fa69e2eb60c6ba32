/- The document's search through the table's text, plainly: it finds the row of the value. No condition but the value's being a value. -/
import Derived.Test.YtocapbnnkfjacaaDoorG2
import Derived.Test.YtocapbnnkfjacaaDoorHTab
import Derived.Test.YtocapbnnkfjacaaDoorDecQ
namespace Go.Proofs.YtocapbnnkfjacaaDoor.G
open Go.RowKit Go.Proofs.YtocapbnnkfjacaaDoorW.PrintWords Go.Proofs.YtocapbnnkfjacaaDoorW.PrintLast Go.Proofs.YtocapbnnkfjacaaDoorW.PrintMore
set_option linter.unusedVariables false
set_option linter.unusedSimpArgs false
open Go.Proofs.YtocapbnnkfjacaaDoor.D

theorem bt_drop (S : ByteArray) (i : Nat) (c : UInt8) (rest : List UInt8) (h : S.data.toList.drop i = c :: rest) : i < S.size ∧ bt S (i : Int) = (c.toNat : Int) ∧ S.data.toList.drop (i + 1) = rest := by
  have hl : i < S.data.toList.length := by
    rcases Nat.lt_or_ge i S.data.toList.length with h1 | h1
    · exact h1
    · rw [List.drop_of_length_le h1] at h; cases h
  have hs : i < S.size := by rw [size_of S _ rfl]; exact hl
  have hc : S.data.toList[i]? = some c := by
    have := congrArg List.head? h
    rw [List.head?_drop] at this
    exact this
  have h2 : S.data.toList[i]? = some S[i] := by
    rw [Array.getElem?_toList]
    exact Array.getElem?_eq_getElem hs
  rw [h2] at hc
  refine ⟨hs, ?_, ?_⟩
  · have := bt_at S (i : Int) (by rw [Int.toNat_natCast]; exact hs)
    rw [← this, ← Option.some.inj hc]
    simp
  · rw [← List.drop_drop, h]; rfl
theorem digit_f (d : Nat) (h : d < 16) : pentroughref04_Digit.f (((hd d).toNat : Nat) : Int) = some (d : Int) ∧ ((hd d).toNat : Int) ≠ 61 ∧ ((hd d).toNat : Int) ≠ 44 ∧ ((hd d).toNat : Int) ≠ 32 := by
  have : ∀ k : Fin 16, pentroughref04_Digit.f (((hd k.val).toNat : Nat) : Int) = some (k.val : Int) ∧ ((hd k.val).toNat : Int) ≠ 61 ∧ ((hd k.val).toNat : Int) ≠ 44 ∧ ((hd k.val).toNat : Int) ≠ 32 := by decide +kernel
  exact this ⟨d, h⟩
theorem st_digit (S : ByteArray) (r : Int) (hS : S.size ≤ 100000) (k : Nat) (l : List Int) (v i d : Nat) (hd' : d < 16) (rest : List UInt8) (h : S.data.toList.drop i = hd d :: rest) (hv : v < 65536) :
    pentroughref04_Find.l0 (k + 2) S r l (v : Int) (i : Int) = pentroughref04_Find.l0 k S r l ((v * 16 + d : Nat) : Int) ((i + 1 : Nat) : Int) := by
  obtain ⟨hs, hb, hr⟩ := bt_drop S i _ _ h
  obtain ⟨hf, n61, n44, n32⟩ := digit_f d hd'
  have w1 : wrap64 ((v : Int) * 16) = v * 16 := by unfold wrap64; omega
  have w2 : wrap64 ((v : Int) * 16 + d) = ((v * 16 + d : Nat) : Int) := by unfold wrap64; omega
  have w3 : wrap64 ((i : Int) + 1) = ((i + 1 : Nat) : Int) := by unfold wrap64; omega
  have c1 : (i : Int) < (S.size : Int) := by omega
  have c2 : 0 ≤ (i : Int) := by omega
  rw [pentroughref04_Find.l0, if_pos c1, if_pos c2, hb, if_neg n61, beq_eq_false_iff_ne.2 n44, pentroughref04_Find.j1, if_neg (by decide), if_neg n32, if_pos c2, if_pos c1, hb, hf, Option.bind_some, w1, w2, w3]
theorem st_sep (S : ByteArray) (r : Int) (hS : S.size ≤ 100000) (k : Nat) (l : List Int) (v : Int) (i : Nat) (c : UInt8) (hc : c = 61 ∨ c = 44) (rest : List UInt8) (h : S.data.toList.drop i = c :: rest) (hl : l.length ≤ 100) :
    pentroughref04_Find.l0 (k + 2) S r l v (i : Int) = pentroughref04_Find.l0 k S r (l ++ [v]) 0 ((i + 1 : Nat) : Int) := by
  obtain ⟨hs, hb, hr⟩ := bt_drop S i _ _ h
  have w3 : wrap64 ((i : Int) + 1) = ((i + 1 : Nat) : Int) := by unfold wrap64; omega
  have c1 : (i : Int) < (S.size : Int) := by omega
  have c2 : 0 ≤ (i : Int) := by omega
  have c3 : l.length < 17592186044416 := by omega
  rcases hc with rfl | rfl
  · have n : ((61 : UInt8).toNat : Int) = 61 := rfl
    rw [pentroughref04_Find.l0, if_pos c1, if_pos c2, hb, n, if_pos rfl, pentroughref04_Find.j1, if_pos (by decide), if_pos c3, w3]
  · have n : ((44 : UInt8).toNat : Int) = 44 := rfl
    rw [pentroughref04_Find.l0, if_pos c1, if_pos c2, hb, n, if_neg (by decide), pentroughref04_Find.j1, if_pos (by decide), if_pos c3, w3]
theorem st_end (S : ByteArray) (r : Int) (hS : S.size ≤ 100000) (k : Nat) (l : List Int) (v : Int) (i : Nat) (rest : List UInt8) (h : S.data.toList.drop i = 32 :: rest) (hl : l.length ≤ 100) :
    pentroughref04_Find.l0 (k + 2) S r l v (i : Int) = if rd (l ++ [v]) 0 = r then some ((l ++ [v]).drop 1, true) else pentroughref04_Find.l0 k S r [] 0 ((i + 1 : Nat) : Int) := by
  obtain ⟨hs, hb, hr⟩ := bt_drop S i _ _ h
  have w3 : wrap64 ((i : Int) + 1) = ((i + 1 : Nat) : Int) := by unfold wrap64; omega
  have c1 : (i : Int) < (S.size : Int) := by omega
  have c2 : 0 ≤ (i : Int) := by omega
  have c3 : l.length < 17592186044416 := by omega
  have n : ((32 : UInt8).toNat : Int) = 32 := rfl
  have c4 : 0 < ((l ++ [v]).length : Int) := by rw [List.length_append, List.length_singleton]; omega
  have c5 : 1 ≤ ((l ++ [v]).length : Int) := by omega
  have t1 : (1 : Int).toNat = 1 := rfl
  rw [pentroughref04_Find.l0, if_pos c1, if_pos c2, hb, n, if_neg (by decide), pentroughref04_Find.j1, if_neg (by decide), if_pos rfl, if_pos c3, Option.bind_some, if_pos c4, if_pos c5, w3, t1]
theorem st_hex (S : ByteArray) (r : Int) (hS : S.size ≤ 100000) (k : Nat) (l : List Int) (i n : Nat) (hn : n < 65536) (rest : List UInt8) (h : S.data.toList.drop i = hex4 n ++ rest) :
    pentroughref04_Find.l0 (k + 8) S r l 0 (i : Int) = pentroughref04_Find.l0 k S r l (n : Int) ((i + 4 : Nat) : Int) ∧ S.data.toList.drop (i + 4) = rest := by
  have m := fun x : Nat => Nat.mod_lt x (show 16 > 0 by decide)
  have h0 : S.data.toList.drop i = hd (n / 4096 % 16) :: hd (n / 256 % 16) :: hd (n / 16 % 16) :: hd (n % 16) :: rest := h
  have h1 := (bt_drop S i _ _ h0).2.2
  have h2 := (bt_drop S _ _ _ h1).2.2
  have h3 := (bt_drop S _ _ _ h2).2.2
  have h4 := (bt_drop S _ _ _ h3).2.2
  refine ⟨?_, h4⟩
  have e1 := st_digit S r hS (k + 6) l 0 i _ (m _) _ h0 (by decide)
  have e2 := st_digit S r hS (k + 4) l (0 * 16 + n / 4096 % 16) (i + 1) _ (m _) _ h1 (by omega)
  have e3 := st_digit S r hS (k + 2) l ((0 * 16 + n / 4096 % 16) * 16 + n / 256 % 16) (i + 1 + 1) _ (m _) _ h2 (by omega)
  have e4 := st_digit S r hS k l (((0 * 16 + n / 4096 % 16) * 16 + n / 256 % 16) * 16 + n / 16 % 16) (i + 1 + 1 + 1) _ (m _) _ h3 (by omega)
  have e : ((((0 * 16 + n / 4096 % 16) * 16 + n / 256 % 16) * 16 + n / 16 % 16) * 16 + n % 16) = n := by omega
  rw [e] at e4
  exact e1.trans (e2.trans (e3.trans e4))
theorem st_row (S : ByteArray) (r : Int) (hS : S.size ≤ 100000) (rest : List UInt8) : ∀ (vs : List Nat) (k : Nat) (l : List Int) (i : Nat), 1 ≤ vs.length → l.length + vs.length ≤ 100 → (∀ v ∈ vs, v < 65536) → S.data.toList.drop i = vText vs ++ 32 :: rest →
    pentroughref04_Find.l0 (k + 2 * ((vText vs).length + 1)) S r l 0 (i : Int) = (if rd (l ++ vs.map (fun v : Nat => (v : Int))) 0 = r then some ((l ++ vs.map (fun v : Nat => (v : Int))).drop 1, true) else pentroughref04_Find.l0 k S r [] 0 ((i + ((vText vs).length + 1) : Nat) : Int)) ∧ S.data.toList.drop (i + ((vText vs).length + 1)) = rest
  | [], _, _, _, h, _, _, _ => by simp at h
  | [v], k, l, i, _, hl, hv, h => by
    rw [vText] at h ⊢
    obtain ⟨e1, h1⟩ := st_hex S r hS (k + 2) l i v (hv v (by simp)) (32 :: rest) h
    have h2 := (bt_drop S _ _ _ h1).2.2
    have e2 := st_end S r hS k l (v : Int) (i + 4) rest h1 (by simp at hl; omega)
    exact ⟨e1.trans e2, h2⟩
  | v :: u :: t, k, l, i, _, hl, hv, h => by
    rw [vText, List.append_assoc, List.cons_append] at h
    have hlen : (vText (v :: u :: t)).length = (vText (u :: t)).length + 5 := by rw [vText, List.length_append, List.length_cons]; show 4 + _ = _; omega
    rw [hlen]
    obtain ⟨e1, h1⟩ := st_hex S r hS (k + 2 * ((vText (u :: t)).length + 1) + 2) l i v (hv v (by simp)) _ h
    have h2 := (bt_drop S _ _ _ h1).2.2
    have e2 := st_sep S r hS (k + 2 * ((vText (u :: t)).length + 1)) l (v : Int) (i + 4) 44 (.inr rfl) _ h1 (by simp at hl; omega)
    obtain ⟨e3, h3⟩ := st_row S r hS rest (u :: t) k (l ++ [(v : Int)]) (i + 4 + 1) (by simp) (by simp at hl ⊢; omega) (fun x hx => hv x (by simp at hx ⊢; exact .inr hx)) h2
    rw [show k + 2 * ((vText (u :: t)).length + 5 + 1) = k + 2 * ((vText (u :: t)).length + 1) + 2 + 8 by omega]
    rw [show i + ((vText (u :: t)).length + 5 + 1) = i + 4 + 1 + ((vText (u :: t)).length + 1) by omega]
    refine ⟨e1.trans (e2.trans ?_), h3⟩
    rw [e3, List.append_assoc]
    rfl
theorem st_tab (S : ByteArray) (r : Int) (hS : S.size ≤ 100000) : ∀ (R : List (Nat × List Nat)) (k : Nat) (i : Nat), (∀ p ∈ R, p.1 < 65536 ∧ 1 ≤ p.2.length ∧ p.2.length ≤ 4 ∧ ∀ v ∈ p.2, v < 65536) → i = S.size - (tabR R).length → (tabR R).length ≤ S.size → S.data.toList.drop i = tabR R →
    pentroughref04_Find.l0 (k + 1 + 2 * (tabR R).length) S r [] 0 (i : Int) = some (match R.find? (fun p => decide ((p.1 : Int) = r)) with | some p => (p.2.map (fun v : Nat => (v : Int)), true) | none => ([], false))
  | [], k, i, _, hi, hz, h => by
    rw [tabR] at hi hz h ⊢
    have c1 : ¬ ((i : Int) < (S.size : Int)) := by simp at hi; omega
    show pentroughref04_Find.l0 (k + 1) S r [] 0 (i : Int) = _
    rw [pentroughref04_Find.l0, if_neg c1]
    rfl
  | p :: R, k, i, hp, hi, hz, h => by
    obtain ⟨p1, p2, p3, p4⟩ := hp p (by simp)
    rw [tabR, rowT, List.append_assoc, List.cons_append] at h
    have hlen : (tabR (p :: R)).length = (tabR R).length + ((vText p.2).length + 1) + 5 := by
      rw [tabR, rowT, List.length_append, List.length_append, List.length_cons, List.length_cons]
      show 4 + _ + _ = _
      omega
    rw [hlen] at hi hz ⊢
    obtain ⟨e1, h1⟩ := st_hex S r hS (k + 1 + 2 * (tabR R).length + 2 * ((vText p.2).length + 1) + 2) [] i p.1 p1 _ h
    have h2 := (bt_drop S _ _ _ h1).2.2
    have e2 := st_sep S r hS (k + 1 + 2 * (tabR R).length + 2 * ((vText p.2).length + 1)) [] (p.1 : Int) (i + 4) 61 (.inl rfl) _ h1 (by simp)
    obtain ⟨e3, h3⟩ := st_row S r hS (tabR R) p.2 (k + 1 + 2 * (tabR R).length) ([] ++ [(p.1 : Int)]) (i + 4 + 1) p2 (by simp; omega) p4 h2
    rw [show k + 1 + 2 * ((tabR R).length + ((vText p.2).length + 1) + 5) = k + 1 + 2 * (tabR R).length + 2 * ((vText p.2).length + 1) + 2 + 8 by omega]
    refine e1.trans (e2.trans (e3.trans ?_))
    rw [List.find?_cons]
    have hr : rd ([] ++ [(p.1 : Int)] ++ p.2.map (fun v : Nat => (v : Int))) 0 = (p.1 : Int) := by simp [rd]
    rw [hr]
    by_cases e : (p.1 : Int) = r
    · rw [if_pos e, decide_eq_true e]
      simp
    · rw [if_neg e, decide_eq_false e]
      exact st_tab S r hS R k _ (fun q hq => hp q (by simp [hq])) (by omega) (by omega) h3
theorem ref_len : (tabR rowsD).length ≤ 100000 := by decide +kernel
theorem find_ref (r : Int) (k : Nat) : pentroughref04_Find.f (k + 1 + 2 * (tabR rowsD).length) refB r = some (match rowsD.find? (fun p => decide ((p.1 : Int) = r)) with | some p => (p.2.map (fun v : Nat => (v : Int)), true) | none => ([], false)) := by
  have hz : refB.size = (tabR rowsD).length := size_of refB _ rfl
  exact st_tab refB r (by rw [hz]; exact ref_len) rowsD k 0 (fun p hp => ⟨(rows_ok p hp).1, (rows_ok p hp).2.1, (rows_ok p hp).2.2.1, (rows_ok p hp).2.2.2.1⟩) (by rw [hz]; omega) (by rw [hz]; exact Nat.le_refl _) rfl
end Go.Proofs.YtocapbnnkfjacaaDoor.G
