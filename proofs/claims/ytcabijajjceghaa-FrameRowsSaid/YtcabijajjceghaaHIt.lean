/- The iterator of package seg, by hand: it yields the clusters one by one, and keeps its state in a block of its own. No condition but that there are at most a hundred thousand values. -/
import Derived.RangeFuncNested
import Derived.RangeFuncBound
import Derived.RangeFuncCalls
import Derived.RangeFuncLeaves
import Derived.RangeFuncBox
import Derived.Shelf.Abstract
import Derived.OwnWalkIn
import Derived.TacticsInMore
import Derived.LoopNIn
import Derived.LoopIn
import Derived.Maps.AppendAt
import Derived.Test.YtcabijajjceghaaHFeed
namespace Go.Proofs.Ytcabijajjceghaa.G
open Go.RowKit Go.Shelf Go.Proofs.YtcabijajjceghaaW.PrintWords Go.Proofs.YtcabijajjceghaaW.PrintLast Go.Proofs.YtcabijajjceghaaW.PrintMore
attribute [local go_sem] Oper.semAt_some
set_option linter.unusedVariables false
set_option linter.unusedSimpArgs false

/-- One round that ends normally: the record is ready again. -/
theorem yield_round {F : Fence} {m : Nat} {P : Program} {l D : Nat} {fn : FuncId} (hfn : F.fn fn) {ps : Array Tmp} {assign body : Code} {tmps : Array Value} {args : Array Value} (hps : args.size = ps.size) {W : World}
    (hl : W.heap[l]? = some (.loop { state := .ready, pending := none, fn, tmps, params := ps, assign, body, defers := D })) (a₁ : Act) {R : World → Prop}
    (hassign : ∀ K : Act → World → Prop, K a₁ W → assign.wpIn (F.inRound l) m P (Exit.then K (fun _ _ _ => False)) { tmps := (ps.zip args).foldl (fun t (p, v) => t.setIfInBounds p v) tmps, defers := [] } W)
    (hbody : body.wpIn (F.inRound l) m P (fun e _ W3 => e = .normal ∧ W3.heap[l]? = some (.loop { state := .busy, pending := none, fn, tmps, params := ps, assign, body, defers := D }) ∧ R W3) a₁ (W.putObj l (.loop { state := .busy, pending := none, fn, tmps, params := ps, assign, body, defers := D }))) :
    YieldAt F m P l args W (fun e W' => ∃ W3, e = .returned (.bool true) ∧ W' = W3.putObj l (.loop { state := .ready, pending := none, fn, tmps, params := ps, assign, body, defers := D }) ∧ W3.heap[l]? = some (.loop { state := .busy, pending := none, fn, tmps, params := ps, assign, body, defers := D }) ∧ R W3) := by
  refine ⟨fn, _, assign, body, run_yield (P := P) (args := args) hl hps, roundIn_of_wpIn hfn (hassign _ ⟨_, run_beginRound hl rfl, ?_⟩)⟩
  refine wpIn_mono hbody ?_
  rintro e a3 W3 ⟨rfl, hl3, hr⟩
  exact ⟨_, _, run_endRound (P := P) none hl3, W3, rfl, rfl, hl3, hr⟩

/-- Five stores into a block of five cells. -/
def put5 (w2 : World) (g : Nat) (v0 v1 v2 v3 v4 : Value) : World := ((((w2.setCell ⟨g, 0, none⟩ v0).setCell ⟨g, 1, none⟩ v1).setCell ⟨g, 2, none⟩ v2).setCell ⟨g, 3, none⟩ v3).setCell ⟨g, 4, none⟩ v4
theorem put5_blk {w2 : World} {g t : Nat} {u0 u1 u2 u3 u4 : Value} (h : w2.heap[g]? = some (.cells #[u0, u1, u2, u3, u4] t (0, 0))) (v0 v1 v2 v3 v4 : Value) : (put5 w2 g v0 v1 v2 v3 v4).heap[g]? = some (.cells #[v0, v1, v2, v3, v4] t (0, 0)) :=
  blk_put (cs' := #[v0, v1, v2, v3, v4]) (blk_put (cs' := #[v0, v1, v2, v3, u4]) (blk_put (cs' := #[v0, v1, v2, u3, u4]) (blk_put (cs' := #[v0, v1, u2, u3, u4]) (blk_put (cs' := #[v0, u1, u2, u3, u4]) h 0 v0 rfl) 1 v1 rfl) 2 v2 rfl) 3 v3 rfl) 4 v4 rfl
theorem put5_far (w2 : World) (g : Nat) (v0 v1 v2 v3 v4 : Value) (j : Nat) (h : j ≠ g) : (put5 w2 g v0 v1 v2 v3 v4).heap[j]? = w2.heap[j]? := by
  unfold put5
  rw [Below.heap_setCell _ _ _ _ h, Below.heap_setCell _ _ _ _ h, Below.heap_setCell _ _ _ _ h, Below.heap_setCell _ _ _ _ h, Below.heap_setCell _ _ _ _ h]
theorem put5_size (w2 : World) (g : Nat) (v0 v1 v2 v3 v4 : Value) : (put5 w2 g v0 v1 v2 v3 v4).heap.size = w2.heap.size := by simp [put5]
theorem put5_below {B : Nat} {w w2 : World} (h : Below B w w2) (g : Nat) (hg : B ≤ g) (v0 v1 v2 v3 v4 : Value) : Below B w (put5 w2 g v0 v1 v2 v3 v4) :=
  ((((h.setCell (p := ⟨g, 0, none⟩) hg v0).setCell (p := ⟨g, 1, none⟩) hg v1).setCell (p := ⟨g, 2, none⟩) hg v2).setCell (p := ⟨g, 3, none⟩) hg v3).setCell (p := ⟨g, 4, none⟩) hg v4

structure ItS (W : World) (base : Nat) (l : List Int) (J : (Nat → Prop) → List (List Int) → World → Prop) (k : Nat) (T : Nat → Prop) (C : List Int) (s : CS) (sA : Option Addr) (sc : Nat) (pre : List (List Int)) (wr : World) : Prop where
  st : wr.heap[W.heap.size]? = some (.cells #[.slice sA C.length sc, .bool s.on, .int .i64 s.kind, .bool s.pict, .bool s.odd] 51 (0, 0))
  row : Kd.V (Kd.int .i64) 3 wr wr.heap.size (fun j => T j) (.slice sA C.length sc) C
  tlow : ∀ j, T j → W.heap.size < j
  inv : J T pre wr
  low : ∀ j, j < base → wr.heap[j]? = W.heap[j]?
  told : pre ++ allP C s (l.drop k) = allP [] c0 l
  len : pre.length ≤ k

def ItEnd (J : (Nat → Prop) → List (List Int) → World → Prop) (l : List Int) (e : Ending) (W' : World) : Prop := (∃ v, e = .returned v) ∧ ∃ T, J T (allP [] c0 l) W'

set_option maxRecDepth 100000 in
set_option maxHeartbeats 4000000 in
theorem it_walk (n : Nat) (hn : 2 ≤ n) (L b1 base : Nat) (A0 : Option Addr) (c1 : Nat) (l : List Int) (hl : l.length ≤ 100000)
    (J : (Nat → Prop) → List (List Int) → World → Prop) (W : World) (hbase : base ≤ W.heap.size)
    (hb1 : W.cell? ⟨b1, 0, none⟩ = some (.slice A0 l.length c1))
    (hread : ∀ B : World, (∀ j, j < base → B.heap[j]? = W.heap[j]?) → Kd.C (Kd.int .i64) B A0 l.length l)
    (hJ : ∀ (T T' : Nat → Prop) (pre : List (List Int)) (A B : World), J T pre A → Below base A B → (∀ j, j < A.heap.size → j ≠ W.heap.size → B.heap[j]? = A.heap[j]?) → (∀ j, T' j → W.heap.size < j ∧ j < B.heap.size ∧ (T j ∨ A.heap.size ≤ j)) → J T' pre B)
    (hY : ∀ (T : Nat → Prop) (pre : List (List Int)) (x : List Int) (v : Value) (W1 : World), J T pre W1 → W.heap.size < W1.heap.size → (∀ j, T j → W.heap.size < j) → x ≠ [] → Kd.V (Kd.int .i64) 3 W1 W1.heap.size (fun j => T j) v x → pre.length ≤ l.length →
      YieldAt Fence.wide (n - 1) Try.prog L #[v] W1 fun e W' => e = .returned (.bool true) ∧ J T (pre ++ [x]) W' ∧ W1.heap.size ≤ W'.heap.size ∧ ∀ j, j < W1.heap.size → (j < base ∨ j = W.heap.size ∨ T j) → W'.heap[j]? = W1.heap[j]?)
    (h0 : J (fun _ => False) [] W) :
    CallsIn Fence.wide n Try.prog 66 #[.func (.yield L) #[] #[], .pointer (some ⟨b1, 0, none⟩)] W (ItEnd J l) := by
  have HJ := Aside0.mk hJ
  have HY := Aside0.mk hY
  have HR := Aside0.mk hread
  have H0 := Aside0.mk h0
  clear hJ hY hread h0
  have hb1lt : b1 < W.heap.size := World.block_lt_of_cell? W ⟨b1, 0, none⟩ hb1
  refine callsIn_of_wp Try.func66 rfl trivial ?_ rfl
  simp only [Try.ntmps66, List.size_toArray, List.length_cons, List.length_nil, Nat.reduceAdd, Nat.reduceSub, Array.replicate_succ, Array.replicate_zero, List.push_toArray, List.append_toArray, List.nil_append, List.cons_append]
  gi_wp2
  gi_loopw [9] (fun i wr => ∃ (k : Nat) (T : Nat → Prop) (C : List Int) (s : CS) (sA : Option Addr) (sc : Nat) (pre : List (List Int)), i = .int .i64 k ∧ k ≤ l.length ∧ Aside0 (ItS W base l J k T C s sA sc pre wr)) (fun i wr => l.length - (intOf i).toNat)
  case atStart =>
    refine ⟨0, fun _ => False, [], c0, none, 0, [], rfl, by omega, ⟨⟨blk_new W _, Kd.V_nil _ _ _ _ _, fun _ h => h.elim, HJ.out _ _ _ W _ H0.out ((Below.refl _ _).alloc hbase _) (fun j hj _ => Below.heap_alloc _ _ _ hj) (fun _ h => h.elim), fun j hj => Below.heap_alloc _ _ _ (by omega), by simp, by simp⟩⟩⟩
  case round =>
    obtain ⟨k, T, C, s, sA, sc, pre, rfl, hk, HI⟩ := hrel
    have hsz := blk_lt HI.out.st
    by_cases hlt : k < l.length
    · obtain ⟨ad, e0, hx⟩ := Kd.at_int (HR.out wr HI.out.low) (k : Int) (by omega) (by omega)
      cases e0
      rw [Int.toNat_natCast] at hx
      have HD := Aside0.mk (show l.drop k = rd l (k : Int) :: l.drop (k + 1) by rw [List.drop_eq_getElem_cons hlt]; simp [rd, hlt])
      generalize rd l (k : Int) = x at *
      have z0 := blk_cell HI.out.st 0
      have z1 := blk_cell HI.out.st 1
      have z2 := blk_cell HI.out.st 2
      have z3 := blk_cell HI.out.st 3
      have z4 := blk_cell HI.out.st 4
      obtain ⟨⟨C2, s2, c2⟩, hfp⟩ : ∃ q, feedP C s x = q := ⟨_, rfl⟩
      have HF := Aside0.mk (show seg_Feed.f C s.on s.kind s.pict s.odd x = some (C2, s2.on, s2.kind, s2.pict, s2.odd, c2) by
        show some (tup6 (feedP C s x)) = _
        rw [hfp]; rfl)
      have HT := Aside0.mk (show allP C s (x :: l.drop (k + 1)) = if c2 = [] then allP C2 s2 (l.drop (k + 1)) else c2 :: allP C2 s2 (l.drop (k + 1)) by
        rw [allP, hfp])
      clear hfp
      gi_wp2_with fail
      refine ⟨trivial, fun _ => by omega, (callsIn_wide.2 (seg_Feed.calls T sA sc C s.on s.kind s.pict s.odd x _ _ _ _ _ _ wr HI.out.row HF.out)).mono ?_⟩
      rintro e w2 ⟨v0, v5, rfl, hv0, hv5, hB⟩
      obtain ⟨a0, d0, rfl, hl0, hf0⟩ := hv0
      obtain ⟨a5, d5, rfl, hl5, hf5⟩ := hv5
      have hz2 : W.heap.size < w2.heap.size := Nat.lt_of_lt_of_le hsz hB.size
      have S2 := Aside0.mk (blk_below HI.out.st hB)
      obtain ⟨w3, hw3⟩ : ∃ w3, put5 w2 W.heap.size (.slice a0 C2.length d0) (.bool s2.on) (.int .i64 s2.kind) (.bool s2.pict) (.bool s2.odd) = w3 := ⟨_, rfl⟩
      have S3 := Aside0.mk (put5_blk S2.out (.slice a0 C2.length d0) (.bool s2.on) (.int .i64 s2.kind) (.bool s2.pict) (.bool s2.odd))
      have O3 := Aside0.mk (put5_far w2 W.heap.size (.slice a0 C2.length d0) (.bool s2.on) (.int .i64 s2.kind) (.bool s2.pict) (.bool s2.odd))
      have hz3 := put5_size w2 W.heap.size (.slice a0 C2.length d0) (.bool s2.on) (.int .i64 s2.kind) (.bool s2.pict) (.bool s2.odd)
      have B3 := Aside0.mk (put5_below (hB.mono (show base ≤ wr.heap.size by omega)) W.heap.size hbase (.slice a0 C2.length d0) (.bool s2.on) (.int .i64 s2.kind) (.bool s2.pict) (.bool s2.odd))
      rw [hw3] at S3 O3 hz3 B3
      obtain ⟨T2, hT2⟩ : ∃ T2 : Nat → Prop, T2 = fun j => (T j ∨ wr.heap.size ≤ j) ∧ j < w2.heap.size := ⟨_, rfl⟩
      have TL := Aside0.mk (show ∀ j, T2 j → W.heap.size < j by
        rw [hT2]
        rintro j ⟨h | h, _⟩
        · exact HI.out.tlow j h
        · omega)
      have row : ∀ {A : Option Addr} {c : Nat} {q : List Int}, q.length ≤ c → Kd.F (Kd.int .i64) w2 (fun j => T j ∨ wr.heap.size ≤ j) A q.length q → Kd.V (Kd.int .i64) 3 w3 w3.heap.size (fun j => T2 j) (.slice A q.length c) q := fun hl hf => Kd.V_mk hl (by
        rw [hT2]
        refine Kd.F_step (Kd.F_bound hf) (fun j hj hlt => O3.out j ?_)
        rcases hj.1 with h | h
        · have := HI.out.tlow j h; omega
        · omega)
      have R0 := Aside0.mk (row hl0 hf0)
      have R5 := Aside0.mk (row hl5 hf5)
      have J3 := Aside0.mk (HJ.out T T2 pre wr w3 HI.out.inv B3.out (fun j hj hne => (O3.out j hne).trans (hB.block j hj)) (by
        intro j hj
        refine ⟨TL.out j hj, ?_⟩
        rw [hT2] at hj
        exact ⟨by rw [hz3]; exact hj.2, hj.1⟩))
      have LOW := Aside0.mk (show ∀ j, j < base → w3.heap[j]? = W.heap[j]? from fun j hj => (B3.out.block j hj).trans (HI.out.low j hj))
      have HLN := Aside0.mk HI.out.len
      have HTD := Aside0.mk HI.out.told
      have g0 := blk_frozen S2.out 0
      have g1 := blk_frozen S2.out 1
      have g2 := blk_frozen S2.out 2
      have g3 := blk_frozen S2.out 3
      have g4 := blk_frozen S2.out 4
      have q0 := blk_cell S2.out 0
      have q1 := blk_cell S2.out 1
      have q2 := blk_cell S2.out 2
      have q3 := blk_cell S2.out 3
      have q4 := blk_cell S2.out 4
      have HW3 := Aside0.mk hw3
      have HZ3 := Aside0.mk hz3
      obtain ⟨m, hm⟩ : ∃ m, c2.length = m := ⟨_, rfl⟩
      rw [hm] at R5 ⊢
      have HM := Aside0.mk hm
      clear z0 z1 z2 z3 z4 hB hf0 hf5 hl0 hl5 hx row hT2 hw3 hz3 hm HI HJ
      by_cases hm0 : m = 0
      · subst hm0
        have hc2 : c2 = [] := List.length_eq_zero_iff.1 HM.out
        subst hc2
        gi_wp2_with fail
        refine ⟨fun _ h => (by cases h), ?_⟩
        gi_wp2_with fail
        go_roundw
        case rel =>
          refine ⟨k + 1, T2, C2, s2, a0, d0, pre, by go_num, hlt, ⟨?_⟩⟩
          have e := HW3.out
          unfold put5 at e
          rw [e]
          exact ⟨S3.out, R0.out, TL.out, J3.out, LOW.out, by rw [← HTD.out, HD.out, HT.out]; simp, Nat.le_succ_of_le HLN.out⟩
        case measure => simp [intOf]; omega
      · have hpos : 0 < m := by omega
        obtain ⟨fn, tmps, assign, body, hy, hR⟩ := HY.out T2 pre c2 (.slice a5 m d5) w3 J3.out (by have := HZ3.out; omega) TL.out (by intro e; have := HM.out; rw [e] at this; simp at this; omega) R5.out (by have := HLN.out; omega)
        have hne : c2 ≠ [] := by intro e; have := HM.out; rw [e] at this; simp at this; omega
        have HR3 := Aside0.mk (RoundIn.mono (R' := fun e W' => e = .returned (.bool true) ∧ Aside0 (ItS W base l J (k + 1) T2 C2 s2 a0 d0 (pre ++ [c2]) W')) hR (fun e W' h => ⟨h.1, ⟨⟨(h.2.2.2 W.heap.size (by have := HZ3.out; omega) (.inr (.inl rfl))).trans S3.out, Kd.V_mk (Kd.V_at R0.out).2.1 (Kd.F_step (Kd.V_at R0.out).2.2 (fun j hj hlt => h.2.2.2 j hlt (.inr (.inr hj)))), TL.out, h.2.1, fun j hj => (h.2.2.2 j (by have := HZ3.out; omega) (.inl hj)).trans (LOW.out j hj), by rw [← HTD.out, HD.out, HT.out, if_neg hne]; simp, by have := HLN.out; simp; omega⟩⟩⟩))
        rw [← HW3.out] at hy HR3
        unfold put5 at hy HR3
        clear hR hne
        gi_wp2_with fail
        refine ⟨fun _ => by omega, HR3.out.mono ?_⟩
        rintro e w4 ⟨rfl, HI4⟩
        gi_wp2_with fail
        go_roundw
        case rel => exact ⟨k + 1, T2, C2, s2, a0, d0, pre ++ [c2], by go_num, hlt, HI4⟩
        case measure => simp [intOf]; omega
    · have hkl : l.drop k = [] := List.drop_of_length_le (by omega)
      have HTD := Aside0.mk HI.out.told
      rw [hkl] at HTD
      have zz := blk_cell HI.out.st 0
      obtain ⟨m, hm⟩ : ∃ m, C.length = m := ⟨_, rfl⟩
      have RW := Aside0.mk HI.out.row
      rw [hm] at RW
      have z0 : wr.cell? ⟨W.heap.size, 0, none⟩ = some (.slice sA m sc) := by rw [zz, ← hm]; rfl
      have HM := Aside0.mk hm
      have TL := Aside0.mk HI.out.tlow
      have HIV := Aside0.mk HI.out.inv
      have HLN := Aside0.mk HI.out.len
      clear hkl hm HI HJ zz
      by_cases hm0 : m = 0
      · subst hm0
        have hC : C = [] := List.length_eq_zero_iff.1 HM.out
        subst hC
        gi_wp2_with fail
        go_end0
        refine ⟨⟨_, rfl⟩, T, ?_⟩
        rw [← HTD.out]
        simpa [allP] using HIV.out
      · have hpos : 0 < m := by omega
        have hne : C ≠ [] := by intro e; have := HM.out; rw [e] at this; simp at this; omega
        obtain ⟨fn, tmps, assign, body, hy, hR⟩ := HY.out T pre C (.slice sA m sc) wr HIV.out hsz TL.out hne RW.out (by have := HLN.out; omega)
        have HR3 := Aside0.mk (RoundIn.mono (R' := fun e W' => e = .returned (.bool true) ∧ Aside0 (J T (allP [] c0 l) W')) hR (fun e W' h => ⟨h.1, ⟨by rw [← HTD.out, allP, if_neg hne]; exact h.2.1⟩⟩))
        clear hR hne
        gi_wp2_with fail
        refine ⟨fun _ => by omega, HR3.out.mono ?_⟩
        rintro e w4 ⟨rfl, HI4⟩
        gi_wp2_with fail
        go_end0
        exact ⟨⟨_, rfl⟩, T, HI4.out⟩
end Go.Proofs.Ytcabijajjceghaa.G
