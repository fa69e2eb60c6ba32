/- No cluster is too long. No condition. -/
import Derived.Test.YtcabijajjceghaaG32
import Derived.Test.YtcabijajjceghaaSegP
namespace Go.Proofs.Ytcabijajjceghaa.Pure
open Go.RowKit Go.Proofs.Ytcabijajjceghaa.G Go.Proofs.YtcabijajjceghaaW.PrintWords Go.Proofs.YtcabijajjceghaaW.PrintLast

theorem awake12l : pentroughlaw12_awake.f 1000 = some true := by decide +kernel
theorem gcb_769 : gcb 769 = 4 := by decide +kernel
theorem gcb_803 : gcb 803 = 4 := by decide +kernel
theorem letters12 : ∀ v ∈ List.range 26, gcb (97 + (v : Int)) = 0 := by decide +kernel

theorem wsm {n : Int} (h0 : -1000000 ≤ n) (h1 : n ≤ 1000000) : wrap64 n = n := by unfold wrap64; omega
theorem wsn (i : Nat) (h : i ≤ 100000) : wrap64 ((i : Int) + 1) = ((i + 1 : Nat) : Int) := by rw [wsm (by omega) (by omega)]; rfl

theorem wq (n q : Nat) (h : n < 128) (hq : q ≤ 4) : wrap64 ((n : Int) + 1 - 32 * ((q : Int) - 1)) = (n : Int) + 1 - 32 * ((q : Int) - 1) := wsm (by omega) (by omega)
theorem wp (p q : Nat) (h : p ≤ 4) (hq : q ≤ 4) : wrap64 ((p : Int) + (q : Int)) = (p : Int) + (q : Int) := wsm (by omega) (by omega)
theorem w1q (q : Nat) (hq : q ≤ 4) : wrap64 ((q : Int) - 1) = (q : Int) - 1 := wsm (by omega) (by omega)
theorem w32 (q : Nat) (hq : q ≤ 4) : wrap64 (32 * ((q : Int) - 1)) = 32 * ((q : Int) - 1) := wsm (by omega) (by omega)
theorem wone (n : Nat) (h : n ≤ 1000) : wrap64 ((n : Int) + 1) = (n : Int) + 1 := wsm (by omega) (by omega)
theorem wdiff (n p q : Nat) (h : n = p + q) (hq : q ≤ 4) : wrap64 ((n : Int) - (p : Int)) = (q : Int) := (wsm (by omega) (by omega)).trans (by omega)
theorem cq (x n q : Nat) (hp : 1 ≤ q) (hb : 32 * q ≤ n + 32) (h : x = n + 1 - 32 * (q - 1)) : (x : Int) = (n : Int) + 1 - 32 * ((q : Int) - 1) := by omega
theorem w32p (n : Nat) (h : n < 128) : wrap64 ((n : Int) + 32) = (n : Int) + 32 := wsm (by omega) (by omega)
theorem wq4 (q : Nat) (h : q ≤ 4) : wrap64 (q : Int) = (q : Int) := wsm (by omega) (by omega)
theorem w1q8 (q : Nat) (hq : q ≤ 8) : wrap64 ((q : Int) - 1) = (q : Int) - 1 := wsm (by omega) (by omega)
def chunkL : Nat → Nat → List Nat
  | a, 0 => [a]
  | a, n + 1 => if a = 32 then 32 :: chunkL 1 n else chunkL (a + 1) n
theorem chunkL_fin : ∀ n : Fin 128, chunkL 1 n.val = List.replicate ((n.val + 32) / 32 - 1) 32 ++ [n.val + 1 - 32 * ((n.val + 32) / 32 - 1)] := by decide +kernel
def calm (s : CS) : Prop := saneC s = true ∧ s.on = true ∧ (s.kind = 0 ∨ s.kind = 4)
theorem calm_next (s : CS) (r : Int) (h : gcb r = 0 ∨ gcb r = 4) : calm (nextS s r) := ⟨sane_nextS s r, rfl, h⟩
theorem ends_ext (s : CS) (r : Int) (hs : calm s) (hr : gcb r = 4) : endsS s r = false := by
  unfold endsS endsK
  rw [hr]
  rcases hs.2.2 with h | h <;> rw [h] <;> simp [endsC, ctrl, sylC]
theorem ends_let (s : CS) (r : Int) (hs : calm s) (hr : gcb r = 0) : endsS s r = true := by
  unfold endsS endsK
  rw [hr, hs.1, hs.2.1]
  rcases hs.2.2 with h | h <;> rw [h] <;> simp [endsC, ctrl, sylC]
theorem full_ext (C : List Int) (s : CS) (r : Int) (hs : calm s) (hr : gcb r = 4) (hne : C ≠ []) : fullP C.length s r = decide (C.length = 32) := by
  have : 0 < C.length := List.length_pos_iff.2 hne
  simp [fullP, ends_ext s r hs hr, this]
theorem chunk_end (r : Int) (hr : gcb r = 4) : ∀ (n : Nat) (C : List Int) (s : CS), calm s → saneG C s = true → C ≠ [] → (allP C s (List.replicate n r)).map List.length = chunkL C.length n := by
  intro n
  induction n with
  | zero => intro C s _ _ hne; simp [allP, chunkL, hne]
  | succ n ih =>
    intro C s hs hg hne
    rw [List.replicate_succ, allP_cons C s r _ hg, full_ext C s r hs hr hne, chunkL]
    by_cases h : C.length = 32
    · rw [decide_eq_true h, if_pos rfl, if_pos h, List.map_cons, ih [r] _ (calm_next s r (.inr hr)) (saneG_one s r) (by simp), h]
      rfl
    · have hf : fullP C.length s r = false := by rw [full_ext C s r hs hr hne]; simp [h]
      rw [decide_eq_false h, if_neg (by simp), if_neg h, ih (C ++ [r]) _ (calm_next s r (.inr hr)) (saneG_more C s r hg hf) (by simp), List.length_append]
      rfl
theorem chunk_let (r y : Int) (t : List Int) (hr : gcb r = 4) (hy : gcb y = 0) : ∀ (n : Nat) (C : List Int) (s : CS), calm s → saneG C s = true → C ≠ [] → ∃ s', (allP C s (List.replicate n r ++ y :: t)).map List.length = chunkL C.length n ++ (allP [y] (nextS s' y) t).map List.length := by
  intro n
  induction n with
  | zero =>
    intro C s hs hg hne
    have hp : 0 < C.length := List.length_pos_iff.2 hne
    have hf : fullP C.length s y = true := by simp [fullP, ends_let s y hs hy, hp]
    exact ⟨s, by rw [List.replicate_zero, List.nil_append, allP_cons C s y _ hg, if_pos hf]; simp [chunkL]⟩
  | succ n ih =>
    intro C s hs hg hne
    rw [List.replicate_succ, List.cons_append, allP_cons C s r _ hg, full_ext C s r hs hr hne, chunkL]
    by_cases h : C.length = 32
    · obtain ⟨s', e⟩ := ih [r] _ (calm_next s r (.inr hr)) (saneG_one s r) (by simp)
      exact ⟨s', by rw [decide_eq_true h, if_pos rfl, if_pos h, List.map_cons, e, h]; rfl⟩
    · have hf : fullP C.length s r = false := by rw [full_ext C s r hs hr hne]; simp [h]
      obtain ⟨s', e⟩ := ih (C ++ [r]) _ (calm_next s r (.inr hr)) (saneG_more C s r hg hf) (by simp)
      exact ⟨s', by rw [decide_eq_false h, if_neg (by simp), if_neg h, e, List.length_append]; rfl⟩
theorem all_lens (y : Int) (hy : gcb y = 0) (n1 n2 : Nat) : (allP [] c0 (y :: (List.replicate n1 769 ++ y :: List.replicate n2 803))).map List.length = chunkL 1 n1 ++ chunkL 1 n2 := by
  rw [allP_cons [] c0 y _ saneG_c0, if_neg (by simp [fullP]), List.nil_append]
  obtain ⟨s', e⟩ := chunk_let 769 y (List.replicate n2 803) gcb_769 hy n1 [y] _ (calm_next c0 y (.inl hy)) (saneG_one c0 y) (by simp)
  rw [e, chunk_end 803 gcb_803 n2 [y] _ (calm_next s' y (.inl hy)) (saneG_one s' y) (by simp)]
  rfl

theorem long_l0 (x7 : Bool) (n1 n2 : Nat) (y : Int) (h1 : n1 < 128) : ∀ (d i k : Nat) (acc : List Int), n1 = i + d → acc.length ≤ i + 1 →
    pentroughlaw12_SegLong.l0 (k + d + 1) x7 (n1 : Int) (n2 : Int) y acc (i : Int) = pentroughlaw12_SegLong.l1 k x7 (n1 : Int) (n2 : Int) (acc ++ List.replicate d 769 ++ [y]) 0 := by
  intro d
  induction d with
  | zero =>
    intro i k acc hi ha
    have hb : acc.length < 17592186044416 := Nat.lt_trans (show acc.length < 200 by omega) (by decide)
    rw [Nat.add_zero, pentroughlaw12_SegLong.l0, if_neg (show ¬ ((i : Int) < (n1 : Int)) by omega), if_pos hb]
    simp
  | succ d ih =>
    intro i k acc hi ha
    have hw : wrap64 ((i : Int) + 1) = ((i + 1 : Nat) : Int) := wsn i (by omega)
    rw [show k + (d + 1) + 1 = (k + d + 1) + 1 by omega, pentroughlaw12_SegLong.l0, if_pos (show (i : Int) < (n1 : Int) by omega), if_pos (Nat.lt_trans (show acc.length < 200 by omega) (by decide)), hw, ih (i + 1) k (acc ++ [769]) (by omega) (by simp; omega)]
    simp [List.replicate_succ]
theorem long_l1 (x7 : Bool) (n1 n2 q1 q2 : Nat) (L : List (List Int)) (h1 : n1 < 128) (h2 : n2 < 128) (e1 : q1 = (n1 + 32) / 32) (e2 : q2 = (n2 + 32) / 32) (hL : L.length = q1 + q2) : ∀ (d i k : Nat) (acc : List Int), n2 = i + d → acc.length ≤ 1000 + i →
    seg_All.f (acc ++ List.replicate d 803) = some L →
    pentroughlaw12_SegLong.l1 (k + d + 1) x7 (n1 : Int) (n2 : Int) acc (i : Int) = pentroughlaw12_SegLong.l2 k x7 (n1 : Int) (n2 : Int) L (q1 : Int) 0 := by
  have b1 : q1 ≤ 4 := by omega
  have b2 : q2 ≤ 4 := by omega
  have t1 : Int.tdiv ((n1 : Int) + 32) 32 = (q1 : Int) := by rw [Int.tdiv_eq_ediv_of_nonneg (by omega)]; omega
  have t2 : Int.tdiv ((n2 : Int) + 32) 32 = (q2 : Int) := by rw [Int.tdiv_eq_ediv_of_nonneg (by omega)]; omega
  clear e1 e2
  have hl : (L.length : Int) = (q1 : Int) + (q2 : Int) := by omega
  have T1 := Aside0.mk t1
  have T2 := Aside0.mk t2
  clear t1 t2
  intro d
  induction d with
  | zero =>
    intro i k acc hi ha hs
    rw [List.replicate_zero, List.append_nil] at hs
    rw [Nat.add_zero, pentroughlaw12_SegLong.l1, if_neg (show ¬ ((i : Int) < (n2 : Int)) by omega), hs, Option.bind_some, w32p n1 h1, w32p n2 h2, T1.out, T2.out, wq4 q1 b1, wq4 q2 b2, wp q1 q2 b1 b2, if_pos hl]
  | succ d ih =>
    intro i k acc hi ha hs
    have f1 : (i : Int) < (n2 : Int) := by omega
    have f2 : acc.length < 17592186044416 := Nat.lt_trans (show acc.length < 2000 by omega) (by decide)
    have f3 : (acc ++ [803]).length ≤ 1000 + (i + 1) := by rw [List.length_append, List.length_singleton]; omega
    have hn := ih (i + 1) k (acc ++ [803]) (by omega) f3 (by rw [← hs]; simp [List.replicate_succ])
    rw [show k + (d + 1) + 1 = (k + d + 1) + 1 by omega, pentroughlaw12_SegLong.l1, if_pos f1, if_pos f2, wsn i (by omega)]
    exact hn
theorem lens_at (L : List (List Int)) (n1 n2 q1 q2 : Nat) (h1 : n1 < 128) (h2 : n2 < 128) (e1 : q1 = (n1 + 32) / 32) (e2 : q2 = (n2 + 32) / 32) (hL : L.map List.length = chunkL 1 n1 ++ chunkL 1 n2) :
    L.length = q1 + q2 ∧ ∀ i, i < q1 + q2 → (rd_L2 L (i : Int)).length = if i = q1 + q2 - 1 then n2 + 1 - 32 * (q2 - 1) else if i = q1 - 1 then n1 + 1 - 32 * (q1 - 1) else 32 := by
  have c1 := chunkL_fin ⟨n1, h1⟩
  have c2 := chunkL_fin ⟨n2, h2⟩
  simp only [← e1, ← e2] at c1 c2
  rw [c1, c2] at hL
  have p1 : 1 ≤ q1 := by omega
  have p2 : 1 ≤ q2 := by omega
  have hlen : L.length = q1 + q2 := by
    have := congrArg List.length hL
    simp at this
    omega
  refine ⟨hlen, fun i hi => ?_⟩
  have h : (L.map List.length)[i]? = some (rd_L2 L (i : Int)).length := by
    have hlt : i < L.length := by omega
    simp [rd_L2, hlt]
  rw [hL] at h
  have : some (rd_L2 L (i : Int)).length = some (if i = q1 + q2 - 1 then n2 + 1 - 32 * (q2 - 1) else if i = q1 - 1 then n1 + 1 - 32 * (q1 - 1) else 32) := by
    rw [← h]
    simp only [List.getElem?_append, List.length_append, List.length_replicate, List.length_cons, List.length_nil, List.getElem?_replicate]
    by_cases a : i = q1 + q2 - 1
    · rw [if_pos a, if_neg (by omega), if_neg (by omega), show i - (q1 - 1 + (0 + 1)) - (q2 - 1) = 0 by omega]; rfl
    · rw [if_neg a]
      by_cases b : i = q1 - 1
      · rw [if_pos b, if_pos (by omega), if_neg (by omega), show i - (q1 - 1) = 0 by omega]; rfl
      · rw [if_neg b]
        by_cases c : i < q1
        · rw [if_pos (by omega), if_pos (by omega), if_pos (by omega)]
        · rw [if_neg (by omega), if_pos (by omega), if_pos (by omega)]
  exact Option.some.inj this
theorem long_l2 (L : List (List Int)) (n1 n2 q1 q2 : Nat) (h1 : n1 < 128) (h2 : n2 < 128) (e1 : q1 = (n1 + 32) / 32) (e2 : q2 = (n2 + 32) / 32) (hL : L.map List.length = chunkL 1 n1 ++ chunkL 1 n2) : ∀ (d i k : Nat), q1 + q2 = i + d →
    pentroughlaw12_SegLong.l2 (k + 2 * d + 1) true (n1 : Int) (n2 : Int) L (q1 : Int) (i : Int) = some true := by
  obtain ⟨hlen, hat⟩ := lens_at L n1 n2 q1 q2 h1 h2 e1 e2 hL
  have p1 : 1 ≤ q1 := by omega
  have p2 : 1 ≤ q2 := by omega
  have b1 : q1 ≤ 4 := by omega
  have b2 : q2 ≤ 4 := by omega
  have b3 : 32 * q1 ≤ n1 + 32 := by omega
  have b4 : 32 * q2 ≤ n2 + 32 := by omega
  clear e1 e2 hL
  intro d
  induction d with
  | zero =>
    intro i k hi
    rw [Nat.mul_zero, Nat.add_zero, pentroughlaw12_SegLong.l2, if_neg (show ¬ ((i : Int) < (L.length : Int)) by omega)]
  | succ d ih =>
    intro i k hi
    have hn := ih (i + 1) k (by omega)
    have ha := hat i (by omega)
    have f1 : (i : Int) < (L.length : Int) := by omega
    have f0 : (0 : Int) ≤ (i : Int) := by omega
    have hw := wsn i (by omega)
    have hj : ∀ x17 : Int, (i ≠ q1 + q2 - 1 → x17 = ((rd_L2 L (i : Int)).length : Int)) → pentroughlaw12_SegLong.j3 (k + 2 * d + 1 + 1) true (n1 : Int) (n2 : Int) L (q1 : Int) (i : Int) x17 = some true := by
      intro x17 hx
      rw [pentroughlaw12_SegLong.j3, w1q8 L.length (by omega), wone n2 (by omega), wdiff _ q1 q2 hlen b2, w1q q2 b2, w32 q2 b2, wq n2 q2 h2 b2, hw, hn]
      clear hw hn
      by_cases hl : i = q1 + q2 - 1
      · rw [if_pos hl] at ha
        have f3 : (i : Int) = (L.length : Int) - 1 := by clear hat ha ih; omega
        rw [if_pos f3, if_pos f0, if_pos f1, if_pos (cq _ n2 q2 p2 b4 ha)]
      · have f3 : ¬ ((i : Int) = (L.length : Int) - 1) := by clear hat ha ih; omega
        rw [if_neg f3, if_pos f0, if_pos f1, if_pos (hx hl).symm]
    clear hw hn
    rw [show k + 2 * (d + 1) + 1 = (k + 2 * d + 1 + 1) + 1 by clear hat ha ih; omega, pentroughlaw12_SegLong.l2, w1q q1 b1, wone n1 (by omega), w32 q1 b1, wq n1 q1 h1 b1, if_pos f1]
    by_cases hq : i = q1 - 1
    · have f3 : (i : Int) = (q1 : Int) - 1 := by clear hat ha ih hj; omega
      rw [if_pos f3]
      refine hj _ (fun hne => ?_)
      rw [if_neg hne, if_pos hq] at ha
      exact (cq _ n1 q1 p1 b3 ha).symm
    · have f3 : ¬ ((i : Int) = (q1 : Int) - 1) := by clear hat ha ih hj; omega
      rw [if_neg f3]
      refine hj _ (fun hne => ?_)
      rw [if_neg hne, if_neg hq] at ha
      rw [ha]
      rfl

theorem SegLong : pentroughlaw12_SegLong.Pure := by
  intro a b c q1 q2 q3
  refine ⟨1000, ?_⟩
  unfold pentroughlaw12_SegLong.f
  rw [awake12l]
  simp only [Option.bind_some]
  have ea : bits .and .i64 a 127 = a % 128 := and_mask 7 (by decide) a
  have eb : bits .and .i64 b 127 = b % 128 := and_mask 7 (by decide) b
  have ec : bits .and .i64 c 65535 = c % 65536 := and_mask 16 (by decide) c
  have hc : 0 ≤ c % 65536 := Int.emod_nonneg _ (by decide)
  rw [ea, eb, ec, Int.tmod_eq_emod_of_nonneg hc]
  obtain ⟨n1, hn1⟩ := Int.eq_ofNat_of_zero_le (show 0 ≤ a % 128 by omega)
  obtain ⟨n2, hn2⟩ := Int.eq_ofNat_of_zero_le (show 0 ≤ b % 128 by omega)
  obtain ⟨v, hv⟩ := Int.eq_ofNat_of_zero_le (show 0 ≤ c % 65536 % 26 by omega)
  have l1 : n1 < 128 := by omega
  have l2 : n2 < 128 := by omega
  have l3 : v < 26 := by omega
  have w1 : wrap64 (97 + (v : Int)) = 97 + (v : Int) := wsm (by omega) (by omega)
  have hy := letters12 v (by rw [List.mem_range]; exact l3)
  rw [hn1, hn2, hv, w1]
  generalize 97 + (v : Int) = y at *
  clear ea eb ec hc hn1 hn2 hv w1 q1 q2 q3
  have hl := all_lens y hy n1 n2
  have hA : seg_All.f (([y] ++ List.replicate n1 769 ++ [y]) ++ List.replicate n2 803) = some (allP [] c0 (y :: (List.replicate n1 769 ++ y :: List.replicate n2 803))) := by
    have e : ([y] ++ List.replicate n1 769 ++ [y]) ++ List.replicate n2 803 = y :: (List.replicate n1 769 ++ y :: List.replicate n2 803) := by simp
    rw [e]
    unfold seg_All.f
    rw [if_pos (by simp; omega)]
  have hn := (lens_at _ n1 n2 _ _ l1 l2 rfl rfl hl).1
  have s0 := long_l0 true n1 n2 y l1 n1 0 (999 - n1) [y] (by omega) (by simp)
  have s1 := long_l1 true n1 n2 _ _ _ l1 l2 rfl rfl hn n2 0 (998 - n1 - n2) ([y] ++ List.replicate n1 769 ++ [y]) (by omega) (by simp; omega) hA
  have s2 := long_l2 _ n1 n2 _ _ l1 l2 rfl rfl hl ((n1 + 32) / 32 + (n2 + 32) / 32) 0 (997 - n1 - n2 - 2 * ((n1 + 32) / 32 + (n2 + 32) / 32)) (by omega)
  rw [show 999 - n1 + n1 + 1 = 1000 by omega] at s0
  rw [show 998 - n1 - n2 + n2 + 1 = 999 - n1 by omega] at s1
  rw [show 997 - n1 - n2 - 2 * ((n1 + 32) / 32 + (n2 + 32) / 32) + 2 * ((n1 + 32) / 32 + (n2 + 32) / 32) + 1 = 998 - n1 - n2 by omega] at s2
  exact s0.trans (s1.trans s2)
end Go.Proofs.Ytcabijajjceghaa.Pure
