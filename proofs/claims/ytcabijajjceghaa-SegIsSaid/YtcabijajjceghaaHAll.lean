/- The machine's side of seg.All, by hand: a range over the package's own iterator that collects what it yields. No condition but that there are at most a hundred thousand values. -/
import Derived.RangeFuncNested
import Derived.RangeFuncBound
import Derived.RangeFuncCalls
import Derived.RangeFuncLeaves
import Derived.RangeFuncBox
import Derived.Shelf.Abstract
import Derived.OwnWalkIn
import Derived.TacticsInMore
import Derived.LoopNIn
import Derived.LoopIn
import Derived.Maps.AppendAt
import Derived.Test.YtcabijajjceghaaHFeed
namespace Go.Proofs.Ytcabijajjceghaa.G
open Go.RowKit Go.Shelf Go.Proofs.YtcabijajjceghaaW.PrintWords Go.Proofs.YtcabijajjceghaaW.PrintLast Go.Proofs.YtcabijajjceghaaW.PrintMore
attribute [local go_sem] Oper.semAt_some
set_option linter.unusedVariables false
set_option linter.unusedSimpArgs false

/-- One round that ends normally: the record is ready again. -/
theorem yield_round {F : Fence} {m : Nat} {P : Program} {l D : Nat} {fn : FuncId} (hfn : F.fn fn) {ps : Array Tmp} {assign body : Code} {tmps : Array Value} {args : Array Value} (hps : args.size = ps.size) {W : World}
    (hl : W.heap[l]? = some (.loop { state := .ready, pending := none, fn, tmps, params := ps, assign, body, defers := D })) (a₁ : Act) {R : World → Prop}
    (hassign : ∀ K : Act → World → Prop, K a₁ W → assign.wpIn (F.inRound l) m P (Exit.then K (fun _ _ _ => False)) { tmps := (ps.zip args).foldl (fun t (p, v) => t.setIfInBounds p v) tmps, defers := [] } W)
    (hbody : body.wpIn (F.inRound l) m P (fun e _ W3 => e = .normal ∧ W3.heap[l]? = some (.loop { state := .busy, pending := none, fn, tmps, params := ps, assign, body, defers := D }) ∧ R W3) a₁ (W.putObj l (.loop { state := .busy, pending := none, fn, tmps, params := ps, assign, body, defers := D }))) :
    YieldAt F m P l args W (fun e W' => ∃ W3, e = .returned (.bool true) ∧ W' = W3.putObj l (.loop { state := .ready, pending := none, fn, tmps, params := ps, assign, body, defers := D }) ∧ W3.heap[l]? = some (.loop { state := .busy, pending := none, fn, tmps, params := ps, assign, body, defers := D }) ∧ R W3) := by
  refine ⟨fn, _, assign, body, run_yield (P := P) (args := args) hl hps, roundIn_of_wpIn hfn (hassign _ ⟨_, run_beginRound hl rfl, ?_⟩)⟩
  refine wpIn_mono hbody ?_
  rintro e a3 W3 ⟨rfl, hl3, hr⟩
  exact ⟨_, _, run_endRound (P := P) none hl3, W3, rfl, rfl, hl3, hr⟩

/-- Five stores into a block of five cells. -/
def put5 (w2 : World) (g : Nat) (v0 v1 v2 v3 v4 : Value) : World := ((((w2.setCell ⟨g, 0, none⟩ v0).setCell ⟨g, 1, none⟩ v1).setCell ⟨g, 2, none⟩ v2).setCell ⟨g, 3, none⟩ v3).setCell ⟨g, 4, none⟩ v4
theorem put5_blk {w2 : World} {g t : Nat} {u0 u1 u2 u3 u4 : Value} (h : w2.heap[g]? = some (.cells #[u0, u1, u2, u3, u4] t (0, 0))) (v0 v1 v2 v3 v4 : Value) : (put5 w2 g v0 v1 v2 v3 v4).heap[g]? = some (.cells #[v0, v1, v2, v3, v4] t (0, 0)) :=
  blk_put (cs' := #[v0, v1, v2, v3, v4]) (blk_put (cs' := #[v0, v1, v2, v3, u4]) (blk_put (cs' := #[v0, v1, v2, u3, u4]) (blk_put (cs' := #[v0, v1, u2, u3, u4]) (blk_put (cs' := #[v0, u1, u2, u3, u4]) h 0 v0 rfl) 1 v1 rfl) 2 v2 rfl) 3 v3 rfl) 4 v4 rfl
theorem put5_far (w2 : World) (g : Nat) (v0 v1 v2 v3 v4 : Value) (j : Nat) (h : j ≠ g) : (put5 w2 g v0 v1 v2 v3 v4).heap[j]? = w2.heap[j]? := by
  unfold put5
  rw [Below.heap_setCell _ _ _ _ h, Below.heap_setCell _ _ _ _ h, Below.heap_setCell _ _ _ _ h, Below.heap_setCell _ _ _ _ h, Below.heap_setCell _ _ _ _ h]
theorem put5_size (w2 : World) (g : Nat) (v0 v1 v2 v3 v4 : Value) : (put5 w2 g v0 v1 v2 v3 v4).heap.size = w2.heap.size := by simp [put5]
theorem put5_below {B : Nat} {w w2 : World} (h : Below B w w2) (g : Nat) (hg : B ≤ g) (v0 v1 v2 v3 v4 : Value) : Below B w (put5 w2 g v0 v1 v2 v3 v4) :=
  ((((h.setCell (p := ⟨g, 0, none⟩) hg v0).setCell (p := ⟨g, 1, none⟩) hg v1).setCell (p := ⟨g, 2, none⟩) hg v2).setCell (p := ⟨g, 3, none⟩) hg v3).setCell (p := ⟨g, 4, none⟩) hg v4

structure ItS (W : World) (base : Nat) (l : List Int) (J : (Nat → Prop) → List (List Int) → World → Prop) (k : Nat) (T : Nat → Prop) (C : List Int) (s : CS) (sA : Option Addr) (sc : Nat) (pre : List (List Int)) (wr : World) : Prop where
  st : wr.heap[W.heap.size]? = some (.cells #[.slice sA C.length sc, .bool s.on, .int .i64 s.kind, .bool s.pict, .bool s.odd] 51 (0, 0))
  row : Kd.V (Kd.int .i64) 3 wr wr.heap.size (fun j => T j) (.slice sA C.length sc) C
  tlow : ∀ j, T j → W.heap.size < j
  inv : J T pre wr
  low : ∀ j, j < base → wr.heap[j]? = W.heap[j]?
  told : pre ++ allP C s (l.drop k) = allP [] c0 l
  len : pre.length ≤ k

def ItEnd (J : (Nat → Prop) → List (List Int) → World → Prop) (l : List Int) (e : Ending) (W' : World) : Prop := (∃ v, e = .returned v) ∧ ∃ T, J T (allP [] c0 l) W'

set_option maxRecDepth 100000 in
set_option maxHeartbeats 4000000 in
theorem it_walk (n : Nat) (hn : 2 ≤ n) (L b1 base : Nat) (A0 : Option Addr) (c1 : Nat) (l : List Int) (hl : l.length ≤ 100000)
    (J : (Nat → Prop) → List (List Int) → World → Prop) (W : World) (hbase : base ≤ W.heap.size)
    (hb1 : W.cell? ⟨b1, 0, none⟩ = some (.slice A0 l.length c1))
    (hread : ∀ B : World, (∀ j, j < base → B.heap[j]? = W.heap[j]?) → Kd.C (Kd.int .i64) B A0 l.length l)
    (hJ : ∀ (T T' : Nat → Prop) (pre : List (List Int)) (A B : World), J T pre A → Below base A B → (∀ j, j < A.heap.size → j ≠ W.heap.size → B.heap[j]? = A.heap[j]?) → (∀ j, T' j → W.heap.size < j ∧ j < B.heap.size ∧ (T j ∨ A.heap.size ≤ j)) → J T' pre B)
    (hY : ∀ (T : Nat → Prop) (pre : List (List Int)) (x : List Int) (v : Value) (W1 : World), J T pre W1 → W.heap.size < W1.heap.size → (∀ j, T j → W.heap.size < j) → x ≠ [] → Kd.V (Kd.int .i64) 3 W1 W1.heap.size (fun j => T j) v x → pre.length ≤ l.length →
      YieldAt Fence.wide (n - 1) Try.prog L #[v] W1 fun e W' => e = .returned (.bool true) ∧ J T (pre ++ [x]) W' ∧ W1.heap.size ≤ W'.heap.size ∧ ∀ j, j < W1.heap.size → (j < base ∨ j = W.heap.size ∨ T j) → W'.heap[j]? = W1.heap[j]?)
    (h0 : J (fun _ => False) [] W) :
    CallsIn Fence.wide n Try.prog 66 #[.func (.yield L) #[] #[], .pointer (some ⟨b1, 0, none⟩)] W (ItEnd J l) := by
  have HJ := Aside0.mk hJ
  have HY := Aside0.mk hY
  have HR := Aside0.mk hread
  have H0 := Aside0.mk h0
  clear hJ hY hread h0
  have hb1lt : b1 < W.heap.size := World.block_lt_of_cell? W ⟨b1, 0, none⟩ hb1
  refine callsIn_of_wp Try.func66 rfl trivial ?_ rfl
  simp only [Try.ntmps66, List.size_toArray, List.length_cons, List.length_nil, Nat.reduceAdd, Nat.reduceSub, Array.replicate_succ, Array.replicate_zero, List.push_toArray, List.append_toArray, List.nil_append, List.cons_append]
  gi_wp2
  gi_loopw [9] (fun i wr => ∃ (k : Nat) (T : Nat → Prop) (C : List Int) (s : CS) (sA : Option Addr) (sc : Nat) (pre : List (List Int)), i = .int .i64 k ∧ k ≤ l.length ∧ Aside0 (ItS W base l J k T C s sA sc pre wr)) (fun i wr => l.length - (intOf i).toNat)
  case atStart =>
    refine ⟨0, fun _ => False, [], c0, none, 0, [], rfl, by omega, ⟨⟨blk_new W _, Kd.V_nil _ _ _ _ _, fun _ h => h.elim, HJ.out _ _ _ W _ H0.out ((Below.refl _ _).alloc hbase _) (fun j hj _ => Below.heap_alloc _ _ _ hj) (fun _ h => h.elim), fun j hj => Below.heap_alloc _ _ _ (by omega), by simp, by simp⟩⟩⟩
  case round =>
    obtain ⟨k, T, C, s, sA, sc, pre, rfl, hk, HI⟩ := hrel
    have hsz := blk_lt HI.out.st
    by_cases hlt : k < l.length
    · obtain ⟨ad, e0, hx⟩ := Kd.at_int (HR.out wr HI.out.low) (k : Int) (by omega) (by omega)
      cases e0
      rw [Int.toNat_natCast] at hx
      have HD := Aside0.mk (show l.drop k = rd l (k : Int) :: l.drop (k + 1) by rw [List.drop_eq_getElem_cons hlt]; simp [rd, hlt])
      generalize rd l (k : Int) = x at *
      have z0 := blk_cell HI.out.st 0
      have z1 := blk_cell HI.out.st 1
      have z2 := blk_cell HI.out.st 2
      have z3 := blk_cell HI.out.st 3
      have z4 := blk_cell HI.out.st 4
      obtain ⟨⟨C2, s2, c2⟩, hfp⟩ : ∃ q, feedP C s x = q := ⟨_, rfl⟩
      have HF := Aside0.mk (show seg_Feed.f C s.on s.kind s.pict s.odd x = some (C2, s2.on, s2.kind, s2.pict, s2.odd, c2) by
        show some (tup6 (feedP C s x)) = _
        rw [hfp]; rfl)
      have HT := Aside0.mk (show allP C s (x :: l.drop (k + 1)) = if c2 = [] then allP C2 s2 (l.drop (k + 1)) else c2 :: allP C2 s2 (l.drop (k + 1)) by
        rw [allP, hfp])
      clear hfp
      gi_wp2_with fail
      refine ⟨trivial, fun _ => by omega, (callsIn_wide.2 (seg_Feed.calls T sA sc C s.on s.kind s.pict s.odd x _ _ _ _ _ _ wr HI.out.row HF.out)).mono ?_⟩
      rintro e w2 ⟨v0, v5, rfl, hv0, hv5, hB⟩
      obtain ⟨a0, d0, rfl, hl0, hf0⟩ := hv0
      obtain ⟨a5, d5, rfl, hl5, hf5⟩ := hv5
      have hz2 : W.heap.size < w2.heap.size := Nat.lt_of_lt_of_le hsz hB.size
      have S2 := Aside0.mk (blk_below HI.out.st hB)
      obtain ⟨w3, hw3⟩ : ∃ w3, put5 w2 W.heap.size (.slice a0 C2.length d0) (.bool s2.on) (.int .i64 s2.kind) (.bool s2.pict) (.bool s2.odd) = w3 := ⟨_, rfl⟩
      have S3 := Aside0.mk (put5_blk S2.out (.slice a0 C2.length d0) (.bool s2.on) (.int .i64 s2.kind) (.bool s2.pict) (.bool s2.odd))
      have O3 := Aside0.mk (put5_far w2 W.heap.size (.slice a0 C2.length d0) (.bool s2.on) (.int .i64 s2.kind) (.bool s2.pict) (.bool s2.odd))
      have hz3 := put5_size w2 W.heap.size (.slice a0 C2.length d0) (.bool s2.on) (.int .i64 s2.kind) (.bool s2.pict) (.bool s2.odd)
      have B3 := Aside0.mk (put5_below (hB.mono (show base ≤ wr.heap.size by omega)) W.heap.size hbase (.slice a0 C2.length d0) (.bool s2.on) (.int .i64 s2.kind) (.bool s2.pict) (.bool s2.odd))
      rw [hw3] at S3 O3 hz3 B3
      obtain ⟨T2, hT2⟩ : ∃ T2 : Nat → Prop, T2 = fun j => (T j ∨ wr.heap.size ≤ j) ∧ j < w2.heap.size := ⟨_, rfl⟩
      have TL := Aside0.mk (show ∀ j, T2 j → W.heap.size < j by
        rw [hT2]
        rintro j ⟨h | h, _⟩
        · exact HI.out.tlow j h
        · omega)
      have row : ∀ {A : Option Addr} {c : Nat} {q : List Int}, q.length ≤ c → Kd.F (Kd.int .i64) w2 (fun j => T j ∨ wr.heap.size ≤ j) A q.length q → Kd.V (Kd.int .i64) 3 w3 w3.heap.size (fun j => T2 j) (.slice A q.length c) q := fun hl hf => Kd.V_mk hl (by
        rw [hT2]
        refine Kd.F_step (Kd.F_bound hf) (fun j hj hlt => O3.out j ?_)
        rcases hj.1 with h | h
        · have := HI.out.tlow j h; omega
        · omega)
      have R0 := Aside0.mk (row hl0 hf0)
      have R5 := Aside0.mk (row hl5 hf5)
      have J3 := Aside0.mk (HJ.out T T2 pre wr w3 HI.out.inv B3.out (fun j hj hne => (O3.out j hne).trans (hB.block j hj)) (by
        intro j hj
        refine ⟨TL.out j hj, ?_⟩
        rw [hT2] at hj
        exact ⟨by rw [hz3]; exact hj.2, hj.1⟩))
      have LOW := Aside0.mk (show ∀ j, j < base → w3.heap[j]? = W.heap[j]? from fun j hj => (B3.out.block j hj).trans (HI.out.low j hj))
      have HLN := Aside0.mk HI.out.len
      have HTD := Aside0.mk HI.out.told
      have g0 := blk_frozen S2.out 0
      have g1 := blk_frozen S2.out 1
      have g2 := blk_frozen S2.out 2
      have g3 := blk_frozen S2.out 3
      have g4 := blk_frozen S2.out 4
      have q0 := blk_cell S2.out 0
      have q1 := blk_cell S2.out 1
      have q2 := blk_cell S2.out 2
      have q3 := blk_cell S2.out 3
      have q4 := blk_cell S2.out 4
      have HW3 := Aside0.mk hw3
      have HZ3 := Aside0.mk hz3
      obtain ⟨m, hm⟩ : ∃ m, c2.length = m := ⟨_, rfl⟩
      rw [hm] at R5 ⊢
      have HM := Aside0.mk hm
      clear z0 z1 z2 z3 z4 hB hf0 hf5 hl0 hl5 hx row hT2 hw3 hz3 hm HI HJ
      by_cases hm0 : m = 0
      · subst hm0
        have hc2 : c2 = [] := List.length_eq_zero_iff.1 HM.out
        subst hc2
        gi_wp2_with fail
        refine ⟨fun _ h => (by cases h), ?_⟩
        gi_wp2_with fail
        go_roundw
        case rel =>
          refine ⟨k + 1, T2, C2, s2, a0, d0, pre, by go_num, hlt, ⟨?_⟩⟩
          have e := HW3.out
          unfold put5 at e
          rw [e]
          exact ⟨S3.out, R0.out, TL.out, J3.out, LOW.out, by rw [← HTD.out, HD.out, HT.out]; simp, Nat.le_succ_of_le HLN.out⟩
        case measure => simp [intOf]; omega
      · have hpos : 0 < m := by omega
        obtain ⟨fn, tmps, assign, body, hy, hR⟩ := HY.out T2 pre c2 (.slice a5 m d5) w3 J3.out (by have := HZ3.out; omega) TL.out (by intro e; have := HM.out; rw [e] at this; simp at this; omega) R5.out (by have := HLN.out; omega)
        have hne : c2 ≠ [] := by intro e; have := HM.out; rw [e] at this; simp at this; omega
        have HR3 := Aside0.mk (RoundIn.mono (R' := fun e W' => e = .returned (.bool true) ∧ Aside0 (ItS W base l J (k + 1) T2 C2 s2 a0 d0 (pre ++ [c2]) W')) hR (fun e W' h => ⟨h.1, ⟨⟨(h.2.2.2 W.heap.size (by have := HZ3.out; omega) (.inr (.inl rfl))).trans S3.out, Kd.V_mk (Kd.V_at R0.out).2.1 (Kd.F_step (Kd.V_at R0.out).2.2 (fun j hj hlt => h.2.2.2 j hlt (.inr (.inr hj)))), TL.out, h.2.1, fun j hj => (h.2.2.2 j (by have := HZ3.out; omega) (.inl hj)).trans (LOW.out j hj), by rw [← HTD.out, HD.out, HT.out, if_neg hne]; simp, by have := HLN.out; simp; omega⟩⟩⟩))
        rw [← HW3.out] at hy HR3
        unfold put5 at hy HR3
        clear hR hne
        gi_wp2_with fail
        refine ⟨fun _ => by omega, HR3.out.mono ?_⟩
        rintro e w4 ⟨rfl, HI4⟩
        gi_wp2_with fail
        go_roundw
        case rel => exact ⟨k + 1, T2, C2, s2, a0, d0, pre ++ [c2], by go_num, hlt, HI4⟩
        case measure => simp [intOf]; omega
    · have hkl : l.drop k = [] := List.drop_of_length_le (by omega)
      have HTD := Aside0.mk HI.out.told
      rw [hkl] at HTD
      have zz := blk_cell HI.out.st 0
      obtain ⟨m, hm⟩ : ∃ m, C.length = m := ⟨_, rfl⟩
      have RW := Aside0.mk HI.out.row
      rw [hm] at RW
      have z0 : wr.cell? ⟨W.heap.size, 0, none⟩ = some (.slice sA m sc) := by rw [zz, ← hm]; rfl
      have HM := Aside0.mk hm
      have TL := Aside0.mk HI.out.tlow
      have HIV := Aside0.mk HI.out.inv
      have HLN := Aside0.mk HI.out.len
      clear hkl hm HI HJ zz
      by_cases hm0 : m = 0
      · subst hm0
        have hC : C = [] := List.length_eq_zero_iff.1 HM.out
        subst hC
        gi_wp2_with fail
        go_end0
        refine ⟨⟨_, rfl⟩, T, ?_⟩
        rw [← HTD.out]
        simpa [allP] using HIV.out
      · have hpos : 0 < m := by omega
        have hne : C ≠ [] := by intro e; have := HM.out; rw [e] at this; simp at this; omega
        obtain ⟨fn, tmps, assign, body, hy, hR⟩ := HY.out T pre C (.slice sA m sc) wr HIV.out hsz TL.out hne RW.out (by have := HLN.out; omega)
        have HR3 := Aside0.mk (RoundIn.mono (R' := fun e W' => e = .returned (.bool true) ∧ Aside0 (J T (allP [] c0 l) W')) hR (fun e W' h => ⟨h.1, ⟨by rw [← HTD.out, allP, if_neg hne]; exact h.2.1⟩⟩))
        clear hR hne
        gi_wp2_with fail
        refine ⟨fun _ => by omega, HR3.out.mono ?_⟩
        rintro e w4 ⟨rfl, HI4⟩
        gi_wp2_with fail
        go_end0
        exact ⟨⟨_, rfl⟩, T, HI4.out⟩
end Go.Proofs.Ytcabijajjceghaa.G

namespace Go.Proofs.Ytcabijajjceghaa.G
open Go.RowKit Go.Shelf Go.Proofs.YtcabijajjceghaaW.PrintWords Go.Proofs.YtcabijajjceghaaW.PrintLast Go.Proofs.YtcabijajjceghaaW.PrintMore
attribute [local go_sem] Oper.semAt_some
set_option linter.unusedVariables false
set_option linter.unusedSimpArgs false

/-- An append onto an owned row, within a fence; where the longer row lies is told, too. -/
theorem wpListIn_append_at {F : Fence} {n : Nat} {P : Program} (w : World) {ops : Array Oper} {rest : List Oper} {o : Oper} {a : Act} {Q : Exit → Act → World → Prop}
    (hg : o.guard = none) (s x : Operand) (t : TypeId) (hop : o.op = Op.call { callee := Callee.builtin Builtin.append, args := #[s, x], argTypes := #[t, t] })
    (base : Nat) (e : TypeId) (i : TypeInfo) (z : Value) (size bytes : Nat) (h1 : P.underlying t = some (.slice e)) (h2 : P.info? e = some i) (h3 : i.zero = some z) (h4 : i.size = size) (h5 : i.bytes = bytes) (h6 : z.cells.size = size) (h7 : 0 < size)
    (v : Value) (k : Nat) (xs : List Value) (hs : a.eval s = v) (hown : w.ownsRow base e size v k xs) (ad : Addr) (m c : Nat) (news : List Value) (hx : a.eval x = .slice (some ad) m c) (hn : news.length = m * size)
    (hc : ∀ j u, news[j]? = some u → w.cell? (ad.add j) = some u) (h1c : ∀ u ∈ news, u.oneCell' = true) (b1 : k + m ≤ maxLen) (b2 : (k + m) * bytes ≤ 140737488355328) (b3 : base ≤ w.heap.size)
    (hK : ∀ v' w', w'.ownsRow base e size v' (k + m) (xs ++ news) → w.grownBy w' v.ownBlock → (v'.ownBlock = v.ownBlock ∨ v'.ownBlock = some w.heap.size) → wpListIn F n P ops Q rest (a.put o.dst v') w') :
    wpListIn F n P ops Q (o :: rest) a w := by
  refine wpListIn_plain hg fun K hK' => ?_
  obtain ⟨v', w', hrun, r1, r2, _, r3⟩ := run_append_own_at (P := P) (w := w) base t o.type e i z size bytes h1 h2 h3 h4 h5 h6 h7 v k xs hown ad m c news hn hc h1c b1 b2 b3
  unfold Oper.wpIn
  refine ⟨?_, ?_⟩
  · simp [Oper.about, hop, resolve, Target.leads, Sem.run_pure]
  · rw [Oper.semAt_plain F _ _ (by rw [hop]; intro c hc'; cases hc')]
    simp [execOp, hop, resolve, invoke, builtin, hs, hx, hrun, Result.andThen]
    exact hK' _ _ (hK v' w' r1 r2 r3)

theorem clusters_calls (A : Option Addr) (n c : Nat) (w : World) : Calls Try.prog 51 #[.slice A n c] w fun e w' => e = .returned (.func (.func 66) #[] #[.pointer (some ⟨w.heap.size, 0, none⟩)]) ∧ w' = w.alloc (.cells #[.slice A n c] 22) := by
  go_enter Try.func51, Try.ntmps51
  go_wp2
  go_ret
  exact ⟨rfl, rfl⟩

/-- What holds of the loop's own memory between two rounds: the box, the row of clusters, the loop's record, the block of deferred calls. -/
structure AllS (w : World) (rec : Loop) (T : Nat → Prop) (pre : List (List Int)) (v : Value) (vals : List Value) (W : World) : Prop where
  box : Boxed W w.heap.size 41 v
  row : W.ownsRow w.heap.size 22 1 v pre.length vals
  els : ∀ (j : Nat) (x : List Int) (u : Value), pre[j]? = some x → vals[j]? = some u → Foot (fun W => (Kd.slice 3 (Kd.int .i64)).K W x [u]) W (fun k => w.heap.size + 4 < k ∧ some k ≠ v.ownBlock)
  far : ∀ k, v.ownBlock = some k → w.heap.size + 4 < k
  apart : ∀ k, T k → w.heap.size + 4 < k ∧ k < W.heap.size ∧ some k ≠ v.ownBlock
  lrec : W.heap[w.heap.size + 3]? = some (.loop rec)
  mark : W.heap[w.heap.size + 2]? = some (.deferred (some []))
  low : Below w.heap.size w W
def AllJ (w : World) (rec : Loop) (T : Nat → Prop) (pre : List (List Int)) (W : World) : Prop := ∃ v vals, AllS w rec T pre v vals W

theorem AllJ_step {w : World} {rec : Loop} (T T' : Nat → Prop) (pre : List (List Int)) (A B : World) (h : AllJ w rec T pre A) (hb : Below w.heap.size A B) (hs : ∀ j, j < A.heap.size → j ≠ w.heap.size + 4 → B.heap[j]? = A.heap[j]?) (ht : ∀ j, T' j → w.heap.size + 4 < j ∧ j < B.heap.size ∧ (T j ∨ A.heap.size ≤ j)) : AllJ w rec T' pre B := by
  obtain ⟨v, vals, h⟩ := h
  have hv : ∀ k, v.ownBlock = some k → k < A.heap.size := by
    intro k hk
    obtain ⟨cs, hc⟩ := own_typed h.row k hk
    exact blk_lt hc
  refine ⟨v, vals, (hs _ h.box.lt (by omega)).trans h.box, own_move h.row (fun k hk => hs k (hv k hk) (by have := h.far k hk; omega)), fun j x u hx hu => Foot.step (h.els j x u hx hu) (fun k hk hlt => hs k hlt (by omega)), h.far, fun k hk => ?_, (hs _ (blk_lt h.lrec) (by omega)).trans h.lrec, (hs _ (blk_lt h.mark) (by omega)).trans h.mark, h.low.trans hb⟩
  obtain ⟨h1, h3, h2 | h2⟩ := ht k hk
  · exact ⟨h1, h3, (h.apart k h2).2.2⟩
  · exact ⟨h1, h3, fun e => by have := hv k e.symm; omega⟩

/-- The row at the end, told by its value. -/
theorem AllJ_V {w : World} {rec : Loop} {T : Nat → Prop} {pre : List (List Int)} {v : Value} {vals : List Value} {W : World} (h : AllS w rec T pre v vals W) {W4 : World} (h4 : ∀ k, w.heap.size + 4 < k → W4.heap[k]? = W.heap[k]?) : Kd.V (Kd.slice 3 (Kd.int .i64)) 22 W4 w.heap.size (fun k => w.heap.size ≤ k) v pre := by
  have hlen : vals.length = pre.length := by have := h.row.1; omega
  have hrow : W4.ownsRow w.heap.size 22 1 v pre.length vals := own_move h.row (fun k hk => h4 k (h.far k hk))
  have hels : ∀ (j : Nat) (x : List Int) (u : Value), pre[j]? = some x → vals[j]? = some u → Foot (fun W => (Kd.slice 3 (Kd.int .i64)).K W x [u]) W4 (fun k => w.heap.size + 4 < k ∧ some k ≠ v.ownBlock) := fun j x u hx hu => Foot.step (h.els j x u hx hu) (fun k hk _ => h4 k hk.1)
  have hR : (Kd.raw 1).R 22 W4 w.heap.size (fun k => some k = v.ownBlock) v (vals.map (fun u => [u])) := by
    refine ⟨fun k hk => hk.symm, vals, by rw [List.length_map, hlen]; exact hrow, by simp [Kd.raw], fun j p hj => ?_⟩
    simp only [List.getElem?_map, Option.map_eq_some_iff] at hj
    obtain ⟨u, hu, rfl⟩ := hj
    obtain ⟨hlt, rfl⟩ := List.getElem?_eq_some_iff.1 hu
    have hx : pre[j]? = some (pre[j]'(by omega)) := List.getElem?_eq_getElem (by omega)
    obtain ⟨A, c, e, _⟩ := Foot.now (hels j _ _ hx hu)
    simp at e
    have hd : (vals.drop (j * 1)).take 1 = [vals[j]] := by rw [Nat.mul_one, List.drop_eq_getElem_cons hlt]; rfl
    refine ⟨hd, congrArg List.length hd, fun y hy => ?_⟩
    have hy2 : y ∈ (vals.drop (j * 1)).take 1 := hy
    rw [hd] at hy2
    simp at hy2
    subst hy2
    rw [e]; rfl
  refine Kd.V_mono (ok := fun k => w.heap.size + 4 < k) (Kd.N_V (base := w.heap.size) ⟨h.far, vals.map (fun u => [u]), by simp [hlen], hR, fun j x c hx hc => ?_⟩) (fun k hk => by omega)
  simp only [List.getElem?_map, Option.map_eq_some_iff] at hc
  obtain ⟨u, hu, rfl⟩ := hc
  exact hels j x u hx hu

def seg_All.f (l0 : List Int) : Option ((List (List Int))) := if l0.length ≤ 100000 then some (allP [] c0 l0) else none
def AllEnd (w : World) (r : List (List Int)) (e : Ending) (w' : World) : Prop := ∃ v0_ : Value, e = .returned (v0_) ∧ Kd.V (Kd.slice 3 (Kd.int .i64)) 22 w' w.heap.size (fun k_ => (w.heap.size ≤ k_)) v0_ r ∧ Below w.heap.size w w'

/-- The start of a loop over a function value of the package's own: the record and the block for the deferred calls are laid, and the iterator is called. -/
theorem wpIn_rangeFunc_enter {F : Fence} {n : Nat} {P : Program} {g : Operand} {ps : Array Tmp} {assign body : Code} {Q : Exit → Act → World → Prop} {a : Act} {w : World}
    (hro : F.round = none) (h1 : 1 ≤ n) {gf : Nat} {lb : Array Value} (hg : a.eval g = .func (.func gf) #[] lb) (hFg : F.fn gf) (eg : ∀ args w, (callFunc gf args).run P w = .ok (.enter gf args) w)
    (h : ∀ fn, F.fn fn → ∀ (rec : Loop) (W1 : World), rec = { state := .ready, pending := none, fn, tmps := a.tmps, params := ps, assign, body, defers := w.heap.size } → W1 = (w.alloc (.deferred (some []))).alloc (.loop rec) →
      CallsIn F (n - 1) P gf ((#[Value.func (Fn.yield (w.heap.size + 1)) #[] #[]] : Array Value) ++ lb) W1 (rangePost F n P (w.heap.size + 1) Q { tmps := a.tmps, defers := { target := .collected w.heap.size, args := #[] } :: a.defers })) :
    (Code.rangeFunc g ps assign body).wpIn F n P Q a w := by
  refine wpIn_rangeFunc ?_
  intro fn hfn
  rw [hro]
  obtain ⟨rec, hrec⟩ : ∃ rec : Loop, rec = { state := .ready, pending := none, fn, tmps := a.tmps, params := ps, assign, body, defers := w.heap.size } := ⟨_, rfl⟩
  obtain ⟨W1, hW1⟩ : ∃ W1, W1 = (w.alloc (.deferred (some []))).alloc (.loop rec) := ⟨_, rfl⟩
  have hc := h fn hfn rec W1 hrec hW1
  refine ⟨w.heap.size + 1, [{ target := .collected w.heap.size, args := #[] }], W1, { target := .fn (.func gf) lb, args := #[.func (.yield (w.heap.size + 1)) #[] #[]] }, W1, gf,
    #[.func (.yield (w.heap.size + 1)) #[] #[]] ++ lb, W1, ?_, ?_, ?_, ?_, fun _ => h1, ?_⟩
  · rw [hW1, hrec]
    exact run_enterLoop_outer _ _ _ _ _
  · simp only [resolve, hg]
    simp [go_sem]
  · intro f' hf'; simp [Target.leads] at hf'; subst hf'; exact hFg
  · simp [invoke, go_sem, eg]
  · exact hc

set_option maxHeartbeats 4000000 in
set_option maxRecDepth 100000 in
theorem all_walk (A0 : Option Addr) (c1 : Nat) (l : List Int) (w : World) (hr0 : Kd.C (Kd.int .i64) w A0 l.length l) (hl : l.length ≤ 100000) :
    Calls Try.prog 28 #[.slice A0 l.length c1] w (AllEnd w (allP [] c0 l)) := by
  have HR0 := Aside0.mk hr0
  clear hr0
  refine (callsIn_wide (n := 4)).1 ?_
  refine callsIn_of_wp_marks Try.func28 rfl trivial ?_ rfl
  simp only [Try.ntmps28, List.size_toArray, List.length_cons, List.length_nil, Nat.reduceAdd, Nat.reduceSub, Array.replicate_succ, Array.replicate_zero, List.push_toArray, List.append_toArray, List.nil_append, List.cons_append]
  gi_wp2_with fail
  refine ⟨trivial, (callsIn_wide.2 (clusters_calls A0 l.length c1 _)).mono ?_⟩
  rintro e w1 ⟨rfl, rfl⟩
  gi_wp2_with fail
  refine wpIn_rangeFunc_enter rfl (by omega) (gf := 66) (lb := #[.pointer (some ⟨w.heap.size + 1, 0, none⟩)]) rfl trivial (enters_of Try.func66 (by kernel_rfl) rfl) ?_
  intro fn hfn rec W1 hrec hW1
  have hz : ((w.alloc (.cells #[.slice none 0 0] 41)).alloc (.cells #[.slice A0 l.length c1] 22)).heap.size = w.heap.size + 2 := by simp
  rw [hz] at hrec ⊢
  have hz1 : W1.heap.size = w.heap.size + 4 := by rw [hW1]; simp
  have hB0 : Below w.heap.size w W1 := by
    rw [hW1]
    exact ((((Below.refl _ w).alloc (Nat.le_refl _) _).alloc (by simp) _).alloc (by simp; omega) _).alloc (by simp; omega) _
  have x0 : W1.heap[w.heap.size]? = some (.cells #[.slice none 0 0] 41 (0, 0)) := by
    rw [hW1]
    exact (Below.heap_alloc _ _ _ (by simp; omega)).trans ((Below.heap_alloc _ _ _ (by simp; omega)).trans ((Below.heap_alloc _ _ _ (by simp)).trans (World.alloc_heap_new w _)))
  have x1 : W1.heap[w.heap.size + 1]? = some (.cells #[.slice A0 l.length c1] 22 (0, 0)) := by
    have := World.alloc_heap_new (w.alloc (.cells #[.slice none 0 0] 41)) (.cells #[.slice A0 l.length c1] 22)
    rw [World.size_alloc] at this
    rw [hW1]
    exact (Below.heap_alloc _ _ _ (by simp)).trans ((Below.heap_alloc _ _ _ (by simp)).trans this)
  have x2 : W1.heap[w.heap.size + 2]? = some (.deferred (some [])) := by
    have := World.alloc_heap_new ((w.alloc (.cells #[.slice none 0 0] 41)).alloc (.cells #[.slice A0 l.length c1] 22)) (.deferred (some []))
    rw [hz] at this
    rw [hW1]
    exact (Below.heap_alloc _ _ _ (by simp)).trans this
  have x3 : W1.heap[w.heap.size + 3]? = some (.loop rec) := by
    have := World.alloc_heap_new (((w.alloc (.cells #[.slice none 0 0] 41)).alloc (.cells #[.slice A0 l.length c1] 22)).alloc (.deferred (some []))) (.loop rec)
    rw [World.size_alloc, hz] at this
    rw [hW1]
    exact this
  clear hW1
  have hJY : ∀ (T : Nat → Prop) (pre : List (List Int)) (x : List Int) (v : Value) (W2 : World), AllJ w rec T pre W2 → W1.heap.size < W2.heap.size → (∀ j, T j → W1.heap.size < j) → x ≠ [] → Kd.V (Kd.int .i64) 3 W2 W2.heap.size (fun j => T j) v x → pre.length ≤ l.length →
      YieldAt Fence.wide (3 - 1) Try.prog (w.heap.size + 3) #[v] W2 fun e W' => e = .returned (.bool true) ∧ AllJ w rec T (pre ++ [x]) W' ∧ W2.heap.size ≤ W'.heap.size ∧ ∀ j, j < W2.heap.size → (j < w.heap.size ∨ j = W1.heap.size ∨ T j) → W'.heap[j]? = W2.heap[j]? := by
    rintro T pre x v W2 ⟨u, vals, h⟩ hsz hT hne hV hlen
    obtain ⟨xA, xc, rfl, hxl, hxf⟩ := hV
    have hl3 := h.lrec
    have hlt3 := blk_lt hl3
    rw [hrec] at hl3
    refine (yield_round (R := fun W3 => AllJ w rec T (pre ++ [x]) (W3.putObj (w.heap.size + 3) (.loop rec)) ∧ W2.heap.size ≤ W3.heap.size ∧ ∀ j, j < W2.heap.size → (j < w.heap.size ∨ j = W1.heap.size ∨ T j) → W3.heap[j]? = W2.heap[j]?) (trivial : Fence.wide.fn fn) rfl hl3
      { tmps := #[.slice A0 l.length c1, undef, .slice none 0 0, .pointer (some ⟨w.heap.size, 0, none⟩), .slice xA x.length xc, .slice A0 l.length c1, .func (.func 66) #[] #[.pointer (some ⟨w.heap.size + 1, 0, none⟩)], .slice xA x.length xc, undef, undef, undef, undef, undef], defers := [] } ?assign ?body).mono ?fin
    case fin =>
      rintro e W' ⟨W3, rfl, rfl, hl4, hj, hs, hf⟩
      refine ⟨rfl, by rw [hrec] at hj ⊢; exact hj, by simpa using hs, fun j hj' hc => ?_⟩
      refine (World.putObj_heap_other ?_).trans (hf j hj' hc)
      rcases hc with h1 | h1 | h1
      · omega
      · omega
      · have := hT j h1; omega
    case assign =>
      intro K hK
      gi_wp2_with fail
      exact hK
    case body =>
      generalize hWb : W2.putObj (w.heap.size + 3) _ = Wb
      have hsb : Wb.heap.size = W2.heap.size := by rw [← hWb]; simp
      have hob : ∀ j, j ≠ w.heap.size + 3 → Wb.heap[j]? = W2.heap[j]? := fun j hj => by rw [← hWb]; exact World.putObj_heap_other hj
      have hlb : Wb.heap[w.heap.size + 3]? = some (.loop { state := .busy, pending := none, fn, tmps := rec.tmps, params := rec.params, assign := rec.assign, body := rec.body, defers := rec.defers }) := by
        rw [← hWb, hrec]; exact World.putObj_heap_same hlt3
      have hbw : Below w.heap.size W2 Wb := by rw [← hWb]; exact belowK_b (w := w) (Nat.le_refl _) W2 _ _ _ (by omega) hl3 rfl rfl
      clear hWb
      have hbx : Boxed Wb w.heap.size 41 u := (hob _ (by omega)).trans h.box
      have hown : Wb.ownsRow w.heap.size 22 1 u pre.length vals := own_move h.row (fun k hk => hob k (by have := h.far k hk; omega))
      have hc := hbx.cell
      obtain ⟨i0, hi, hi0, hi1, hi2⟩ := info_parts info22
      have hlow := h.low.size
      have HSB := Aside0.mk hsb
      have hzb : w.heap.size ≤ Wb.heap.size := by omega
      have hpl : pre.length ≤ 100000 := by omega
      clear hsb
      gi_wp2_with (gi_at_builtin; refine Aside0.out ?_)
      refine ⟨?_⟩
      refine wpListIn_append_at _ rfl _ _ 41 rfl w.heap.size 22 i0 (.slice none 0 0) 1 24 Try.underlying41 hi hi0 hi1 hi2 rfl (by decide) _ _ _ rfl (hown.alloc _) ⟨Wb.heap.size, 0, none⟩ 1 1 [.slice xA x.length xc] rfl rfl (cell_one_new _ _ _) (by simp [Value.oneCell']) (Nat.le_trans (show pre.length + 1 ≤ 100001 by omega) (by decide)) (by omega) (by simp; omega) ?_
      intro v' w1 hown' hgrow hat
      obtain ⟨g', cap', rfl⟩ := ownsRow_succ hown'
      obtain ⟨hv1, hv2, hr2, hk2, hb2⟩ := hbx.appended (by decide) hown hzb (Nat.le_refl _) hown' hgrow
      have hc1 := hv1.cell
      have hf1 := hv1.frozen
      have HG := Aside0.mk hgrow
      have HA := Aside0.mk hat
      have HH := Aside0.mk h
      have HK := Aside0.mk hk2
      have HB2 := Aside0.mk hb2
      have HR2 := Aside0.mk hr2
      have HV2 := Aside0.mk hv2
      have HLB := Aside0.mk hlb
      have HREC := Aside0.mk hrec
      clear hrec hgrow hat h hk2 hb2 hr2 hv2 hlb hown hbx hc hv1 hl3
      gi_wp2_with fail
      clear hc1 hf1 hi hi0 hi1 hi2
      have hsb := HSB.out
      have same : ∀ k, k < W2.heap.size → k ≠ w.heap.size → k ≠ w.heap.size + 3 → some k ≠ u.ownBlock → (w1.setCell ⟨w.heap.size, 0, none⟩ (.slice (some ⟨g', 0, none⟩) (pre.length + 1) cap')).heap[k]? = W2.heap[k]? := fun k h1 h2 h3 h4 =>
        (Below.heap_setCell _ _ _ _ h2).trans ((HG.out.block k (by simp; omega) h4).trans ((Below.heap_alloc _ _ _ (by omega)).trans (hob k h3)))
      have hnew : ∀ k, k < W2.heap.size → some k ≠ u.ownBlock → some k ≠ (Value.slice (some ⟨g', 0, none⟩) (pre.length + 1) cap').ownBlock := fun k h1 h2 e => by
        rcases HA.out with h3 | h3
        · exact h2 (e.trans h3)
        · have := e.trans h3
          simp at this
          omega
      have hfar : ∀ k, (Value.slice (some ⟨g', 0, none⟩) (pre.length + 1) cap').ownBlock = some k → w.heap.size + 4 < k := fun k e => by
        rcases HA.out with h3 | h3
        · exact HH.out.far k (h3.symm.trans e)
        · have := h3.symm.trans e
          simp at this
          omega
      have hTu : ∀ k, T k → w.heap.size + 4 < k ∧ k < W2.heap.size ∧ some k ≠ u.ownBlock := HH.out.apart
      have hf3 : ∀ k, k ≠ w.heap.size + 3 → ((w1.setCell ⟨w.heap.size, 0, none⟩ (.slice (some ⟨g', 0, none⟩) (pre.length + 1) cap')).putObj (w.heap.size + 3) (.loop rec)).heap[k]? = (w1.setCell ⟨w.heap.size, 0, none⟩ (.slice (some ⟨g', 0, none⟩) (pre.length + 1) cap')).heap[k]? := fun k hk => World.putObj_heap_other hk
      have hlB := HLB.out
      have hl3' := HK.out.same _ _ HLB.out rfl
      have hsz3 : W2.heap.size ≤ (w1.setCell ⟨w.heap.size, 0, none⟩ (.slice (some ⟨g', 0, none⟩) (pre.length + 1) cap')).heap.size := by
        have := HK.out.size
        omega
      have hvl : vals.length = pre.length := by have := HH.out.row.1; omega
      refine ⟨?_, ⟨.slice (some ⟨g', 0, none⟩) (pre.length + 1) cap', vals ++ [.slice xA x.length xc], ?_⟩, by simpa using hsz3, ?_⟩
      · rw [hl3', HREC.out]
      · refine ⟨(hf3 _ (by omega)).trans HV2.out, ?_, fun j y u' hx hu => ?_, hfar, fun k hk => ?_, World.putObj_heap_same (blk_lt hl3'), ?_, ?_⟩
        · rw [List.length_append]
          exact own_move HR2.out (fun k hk => hf3 k (by have := hfar k hk; omega))
        · by_cases hj : j < pre.length
          · rw [List.getElem?_append_left hj] at hx
            rw [List.getElem?_append_left (by omega)] at hu
            exact Foot.mono (Foot.step (Foot.bound (HH.out.els j y u' hx hu)) (fun k hk hlt => (hf3 k (by omega)).trans (same k hlt (by omega) (by omega) hk.1.2))) (fun k hk => ⟨hk.1.1, hnew k hk.2 hk.1.2⟩)
          · obtain rfl : j = pre.length := by
              have := (List.getElem?_eq_some_iff.1 hx).1
              simp at this
              omega
            rw [List.getElem?_append_right (Nat.le_refl _)] at hx
            rw [List.getElem?_append_right (by omega)] at hu
            simp [hvl] at hx hu
            subst hx
            subst hu
            exact Foot.mono (Foot.step (Foot.bound (Foot.imp hxf (fun W' hC => ⟨xA, xc, rfl, hxl, hC⟩))) (fun k hk hlt => (hf3 k (by have := hTu k hk.1; omega)).trans (same k hlt (by have := hTu k hk.1; omega) (by have := hTu k hk.1; omega) (hTu k hk.1).2.2))) (fun k hk => ⟨(hTu k hk.1).1, hnew k hk.2 (hTu k hk.1).2.2⟩)
        · obtain ⟨h1, h2, h3⟩ := hTu k hk
          exact ⟨h1, Nat.lt_of_lt_of_le h2 (by simpa using hsz3), hnew k h2 h3⟩
        · exact (hf3 _ (by omega)).trans ((same _ (by omega) (by omega) (by omega) (fun e => by have := HH.out.far _ e.symm; omega)).trans HH.out.mark)
        · exact (HH.out.low.trans (hbw.trans HB2.out)).trans (belowK_b (w := w) (Nat.le_refl _) _ _ _ _ (by omega) hl3' rfl rfl)
      · intro j hj hc
        rcases hc with h1 | h1 | h1
        · exact same j hj (by omega) (by omega) (fun e => by have := HH.out.far _ e.symm; omega)
        · exact same j hj (by omega) (by omega) (fun e => by have := HH.out.far _ e.symm; omega)
        · obtain ⟨h2, h3, h4⟩ := hTu j h1
          exact same j hj (by omega) (by omega) h4
  refine (it_walk 3 (by omega) (w.heap.size + 3) (w.heap.size + 1) w.heap.size A0 c1 l hl (fun T pre W => AllJ w rec T pre W) W1 (by omega) (blk_cell x1 0) (fun B hB => (Kd.heap_int .i64).C (fun k hk => (hB k hk).trans (hB0.block k hk)) HR0.out) ?_ hJY ?_).mono ?_
  · intro T T' pre A B h1 h2 h3 h4
    exact AllJ_step T T' pre A B h1 h2 (fun j hj hne => h3 j hj (by omega)) (fun j hj => by have := h4 j hj; rw [hz1] at this; exact this)
  · exact ⟨.slice none 0 0, [], x0, World.ownsRow_nil _ _ _ _, fun j x u hx => (by simp at hx), fun k hk => (by simp [Value.ownBlock] at hk), fun _ h => h.elim, x3, x2, hB0⟩
  · rintro e W2 ⟨⟨v, rfl⟩, T, u, vals, h⟩
    have hl3 := h.lrec
    have hlt3 := blk_lt hl3
    rw [hrec] at hl3
    refine ⟨none, _, run_endLoop (P := Try.prog) hl3 (by simp), ?_⟩
    dsimp only
    have HH := Aside0.mk h
    have HLT := Aside0.mk hlt3
    generalize hW3 : W2.putObj (w.heap.size + 3) _ = W3
    have h3 : ∀ k, k ≠ w.heap.size + 3 → W3.heap[k]? = W2.heap[k]? := fun k hk => by rw [← hW3]; exact World.putObj_heap_other hk
    have hb3 : Below w.heap.size W2 W3 := by rw [← hW3]; exact belowK_b (w := w) (Nat.le_refl _) W2 _ _ _ (by omega) hl3 rfl rfl
    have hbx : Boxed W3 w.heap.size 41 u := (h3 _ (by omega)).trans h.box
    have hK : W3.heap[w.heap.size + 2]? = some (.deferred (some [])) := (h3 _ (by omega)).trans h.mark
    have hc := hbx.cell
    have H3 := Aside0.mk h3
    have HB3 := Aside0.mk hb3
    have HKK := Aside0.mk hK
    clear hW3 h3 hb3 hK hl3 h hbx hrec x0 x1 x2 x3 hJY
    gi_wp2_with fail
    refine ⟨by simp, .inl ⟨_, _, rfl, run_takeDeferred HKK.out, ?_⟩⟩
    refine ⟨_, results_tmp rfl _ _ _, u, rfl, AllJ_V HH.out (fun k hk => (World.putObj_heap_other (by omega)).trans (H3.out k (by omega))), (HH.out.low.trans HB3.out).trans (belowK_b (w := w) (Nat.le_refl _) _ _ _ _ (by omega) HKK.out rfl rfl)⟩

theorem seg_All.calls (A0 : Option Addr) (c1 : Nat) (l0 : List Int) (r : List (List Int)) (w : World) (hr0 : Kd.C (Kd.int .i64) w A0 l0.length l0) (hc0 : l0.length ≤ c1) (h : seg_All.f l0 = some r) :
    Calls Try.prog 28 #[.slice A0 l0.length c1] w fun e w' => ∃ v0_ : Value, e = .returned (v0_) ∧ Kd.V (Kd.slice 3 (Kd.int .i64)) 22 w' w.heap.size (fun k_ => (w.heap.size ≤ k_)) v0_ r ∧ Below w.heap.size w w' := by
  unfold seg_All.f at h
  split at h
  · cases h
    exact all_walk A0 c1 l0 w hr0 (by assumption)
  · cases h
end Go.Proofs.Ytcabijajjceghaa.G
