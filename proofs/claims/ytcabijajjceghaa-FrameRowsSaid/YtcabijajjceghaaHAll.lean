/- The machine's side of seg.All, by hand: a range over the package's own iterator that collects what it yields. No condition but that there are at most a hundred thousand values. -/
import Derived.Test.YtcabijajjceghaaHIt
namespace Go.Proofs.Ytcabijajjceghaa.G
open Go.RowKit Go.Shelf Go.Proofs.YtcabijajjceghaaW.PrintWords Go.Proofs.YtcabijajjceghaaW.PrintLast Go.Proofs.YtcabijajjceghaaW.PrintMore
attribute [local go_sem] Oper.semAt_some
set_option linter.unusedVariables false
set_option linter.unusedSimpArgs false

/-- An append onto an owned row, within a fence; where the longer row lies is told, too. -/
theorem wpListIn_append_at {F : Fence} {n : Nat} {P : Program} (w : World) {ops : Array Oper} {rest : List Oper} {o : Oper} {a : Act} {Q : Exit → Act → World → Prop}
    (hg : o.guard = none) (s x : Operand) (t : TypeId) (hop : o.op = Op.call { callee := Callee.builtin Builtin.append, args := #[s, x], argTypes := #[t, t] })
    (base : Nat) (e : TypeId) (i : TypeInfo) (z : Value) (size bytes : Nat) (h1 : P.underlying t = some (.slice e)) (h2 : P.info? e = some i) (h3 : i.zero = some z) (h4 : i.size = size) (h5 : i.bytes = bytes) (h6 : z.cells.size = size) (h7 : 0 < size)
    (v : Value) (k : Nat) (xs : List Value) (hs : a.eval s = v) (hown : w.ownsRow base e size v k xs) (ad : Addr) (m c : Nat) (news : List Value) (hx : a.eval x = .slice (some ad) m c) (hn : news.length = m * size)
    (hc : ∀ j u, news[j]? = some u → w.cell? (ad.add j) = some u) (h1c : ∀ u ∈ news, u.oneCell' = true) (b1 : k + m ≤ maxLen) (b2 : (k + m) * bytes ≤ 140737488355328) (b3 : base ≤ w.heap.size)
    (hK : ∀ v' w', w'.ownsRow base e size v' (k + m) (xs ++ news) → w.grownBy w' v.ownBlock → (v'.ownBlock = v.ownBlock ∨ v'.ownBlock = some w.heap.size) → wpListIn F n P ops Q rest (a.put o.dst v') w') :
    wpListIn F n P ops Q (o :: rest) a w := by
  refine wpListIn_plain hg fun K hK' => ?_
  obtain ⟨v', w', hrun, r1, r2, _, r3⟩ := run_append_own_at (P := P) (w := w) base t o.type e i z size bytes h1 h2 h3 h4 h5 h6 h7 v k xs hown ad m c news hn hc h1c b1 b2 b3
  unfold Oper.wpIn
  refine ⟨?_, ?_⟩
  · simp [Oper.about, hop, resolve, Target.leads, Sem.run_pure]
  · rw [Oper.semAt_plain F _ _ (by rw [hop]; intro c hc'; cases hc')]
    simp [execOp, hop, resolve, invoke, builtin, hs, hx, hrun, Result.andThen]
    exact hK' _ _ (hK v' w' r1 r2 r3)

theorem clusters_calls (A : Option Addr) (n c : Nat) (w : World) : Calls Try.prog 51 #[.slice A n c] w fun e w' => e = .returned (.func (.func 66) #[] #[.pointer (some ⟨w.heap.size, 0, none⟩)]) ∧ w' = w.alloc (.cells #[.slice A n c] 22) := by
  go_enter Try.func51, Try.ntmps51
  go_wp2
  go_ret
  exact ⟨rfl, rfl⟩

/-- What holds of the loop's own memory between two rounds: the box, the row of clusters, the loop's record, the block of deferred calls. -/
structure AllS (w : World) (rec : Loop) (T : Nat → Prop) (pre : List (List Int)) (v : Value) (vals : List Value) (W : World) : Prop where
  box : Boxed W w.heap.size 41 v
  row : W.ownsRow w.heap.size 22 1 v pre.length vals
  els : ∀ (j : Nat) (x : List Int) (u : Value), pre[j]? = some x → vals[j]? = some u → Foot (fun W => (Kd.slice 3 (Kd.int .i64)).K W x [u]) W (fun k => w.heap.size + 4 < k ∧ some k ≠ v.ownBlock)
  far : ∀ k, v.ownBlock = some k → w.heap.size + 4 < k
  apart : ∀ k, T k → w.heap.size + 4 < k ∧ k < W.heap.size ∧ some k ≠ v.ownBlock
  lrec : W.heap[w.heap.size + 3]? = some (.loop rec)
  mark : W.heap[w.heap.size + 2]? = some (.deferred (some []))
  low : Below w.heap.size w W
def AllJ (w : World) (rec : Loop) (T : Nat → Prop) (pre : List (List Int)) (W : World) : Prop := ∃ v vals, AllS w rec T pre v vals W

theorem AllJ_step {w : World} {rec : Loop} (T T' : Nat → Prop) (pre : List (List Int)) (A B : World) (h : AllJ w rec T pre A) (hb : Below w.heap.size A B) (hs : ∀ j, j < A.heap.size → j ≠ w.heap.size + 4 → B.heap[j]? = A.heap[j]?) (ht : ∀ j, T' j → w.heap.size + 4 < j ∧ j < B.heap.size ∧ (T j ∨ A.heap.size ≤ j)) : AllJ w rec T' pre B := by
  obtain ⟨v, vals, h⟩ := h
  have hv : ∀ k, v.ownBlock = some k → k < A.heap.size := by
    intro k hk
    obtain ⟨cs, hc⟩ := own_typed h.row k hk
    exact blk_lt hc
  refine ⟨v, vals, (hs _ h.box.lt (by omega)).trans h.box, own_move h.row (fun k hk => hs k (hv k hk) (by have := h.far k hk; omega)), fun j x u hx hu => Foot.step (h.els j x u hx hu) (fun k hk hlt => hs k hlt (by omega)), h.far, fun k hk => ?_, (hs _ (blk_lt h.lrec) (by omega)).trans h.lrec, (hs _ (blk_lt h.mark) (by omega)).trans h.mark, h.low.trans hb⟩
  obtain ⟨h1, h3, h2 | h2⟩ := ht k hk
  · exact ⟨h1, h3, (h.apart k h2).2.2⟩
  · exact ⟨h1, h3, fun e => by have := hv k e.symm; omega⟩

/-- The row at the end, told by its value. -/
theorem AllJ_V {w : World} {rec : Loop} {T : Nat → Prop} {pre : List (List Int)} {v : Value} {vals : List Value} {W : World} (h : AllS w rec T pre v vals W) {W4 : World} (h4 : ∀ k, w.heap.size + 4 < k → W4.heap[k]? = W.heap[k]?) : Kd.V (Kd.slice 3 (Kd.int .i64)) 22 W4 w.heap.size (fun k => w.heap.size ≤ k) v pre := by
  have hlen : vals.length = pre.length := by have := h.row.1; omega
  have hrow : W4.ownsRow w.heap.size 22 1 v pre.length vals := own_move h.row (fun k hk => h4 k (h.far k hk))
  have hels : ∀ (j : Nat) (x : List Int) (u : Value), pre[j]? = some x → vals[j]? = some u → Foot (fun W => (Kd.slice 3 (Kd.int .i64)).K W x [u]) W4 (fun k => w.heap.size + 4 < k ∧ some k ≠ v.ownBlock) := fun j x u hx hu => Foot.step (h.els j x u hx hu) (fun k hk _ => h4 k hk.1)
  have hR : (Kd.raw 1).R 22 W4 w.heap.size (fun k => some k = v.ownBlock) v (vals.map (fun u => [u])) := by
    refine ⟨fun k hk => hk.symm, vals, by rw [List.length_map, hlen]; exact hrow, by simp [Kd.raw], fun j p hj => ?_⟩
    simp only [List.getElem?_map, Option.map_eq_some_iff] at hj
    obtain ⟨u, hu, rfl⟩ := hj
    obtain ⟨hlt, rfl⟩ := List.getElem?_eq_some_iff.1 hu
    have hx : pre[j]? = some (pre[j]'(by omega)) := List.getElem?_eq_getElem (by omega)
    obtain ⟨A, c, e, _⟩ := Foot.now (hels j _ _ hx hu)
    simp at e
    have hd : (vals.drop (j * 1)).take 1 = [vals[j]] := by rw [Nat.mul_one, List.drop_eq_getElem_cons hlt]; rfl
    refine ⟨hd, congrArg List.length hd, fun y hy => ?_⟩
    have hy2 : y ∈ (vals.drop (j * 1)).take 1 := hy
    rw [hd] at hy2
    simp at hy2
    subst hy2
    rw [e]; rfl
  refine Kd.V_mono (ok := fun k => w.heap.size + 4 < k) (Kd.N_V (base := w.heap.size) ⟨h.far, vals.map (fun u => [u]), by simp [hlen], hR, fun j x c hx hc => ?_⟩) (fun k hk => by omega)
  simp only [List.getElem?_map, Option.map_eq_some_iff] at hc
  obtain ⟨u, hu, rfl⟩ := hc
  exact hels j x u hx hu

def seg_All.f (l0 : List Int) : Option ((List (List Int))) := if l0.length ≤ 100000 then some (allP [] c0 l0) else none
def AllEnd (w : World) (r : List (List Int)) (e : Ending) (w' : World) : Prop := ∃ v0_ : Value, e = .returned (v0_) ∧ Kd.V (Kd.slice 3 (Kd.int .i64)) 22 w' w.heap.size (fun k_ => (w.heap.size ≤ k_)) v0_ r ∧ Below w.heap.size w w'

/-- The start of a loop over a function value of the package's own: the record and the block for the deferred calls are laid, and the iterator is called. -/
theorem wpIn_rangeFunc_enter {F : Fence} {n : Nat} {P : Program} {g : Operand} {ps : Array Tmp} {assign body : Code} {Q : Exit → Act → World → Prop} {a : Act} {w : World}
    (hro : F.round = none) (h1 : 1 ≤ n) {gf : Nat} {lb : Array Value} (hg : a.eval g = .func (.func gf) #[] lb) (hFg : F.fn gf) (eg : ∀ args w, (callFunc gf args).run P w = .ok (.enter gf args) w)
    (h : ∀ fn, F.fn fn → ∀ (rec : Loop) (W1 : World), rec = { state := .ready, pending := none, fn, tmps := a.tmps, params := ps, assign, body, defers := w.heap.size } → W1 = (w.alloc (.deferred (some []))).alloc (.loop rec) →
      CallsIn F (n - 1) P gf ((#[Value.func (Fn.yield (w.heap.size + 1)) #[] #[]] : Array Value) ++ lb) W1 (rangePost F n P (w.heap.size + 1) Q { tmps := a.tmps, defers := { target := .collected w.heap.size, args := #[] } :: a.defers })) :
    (Code.rangeFunc g ps assign body).wpIn F n P Q a w := by
  refine wpIn_rangeFunc ?_
  intro fn hfn
  rw [hro]
  obtain ⟨rec, hrec⟩ : ∃ rec : Loop, rec = { state := .ready, pending := none, fn, tmps := a.tmps, params := ps, assign, body, defers := w.heap.size } := ⟨_, rfl⟩
  obtain ⟨W1, hW1⟩ : ∃ W1, W1 = (w.alloc (.deferred (some []))).alloc (.loop rec) := ⟨_, rfl⟩
  have hc := h fn hfn rec W1 hrec hW1
  refine ⟨w.heap.size + 1, [{ target := .collected w.heap.size, args := #[] }], W1, { target := .fn (.func gf) lb, args := #[.func (.yield (w.heap.size + 1)) #[] #[]] }, W1, gf,
    #[.func (.yield (w.heap.size + 1)) #[] #[]] ++ lb, W1, ?_, ?_, ?_, ?_, fun _ => h1, ?_⟩
  · rw [hW1, hrec]
    exact run_enterLoop_outer _ _ _ _ _
  · simp only [resolve, hg]
    simp [go_sem]
  · intro f' hf'; simp [Target.leads] at hf'; subst hf'; exact hFg
  · simp [invoke, go_sem, eg]
  · exact hc

set_option maxHeartbeats 4000000 in
set_option maxRecDepth 100000 in
theorem all_walk (A0 : Option Addr) (c1 : Nat) (l : List Int) (w : World) (hr0 : Kd.C (Kd.int .i64) w A0 l.length l) (hl : l.length ≤ 100000) :
    Calls Try.prog 28 #[.slice A0 l.length c1] w (AllEnd w (allP [] c0 l)) := by
  have HR0 := Aside0.mk hr0
  clear hr0
  refine (callsIn_wide (n := 4)).1 ?_
  refine callsIn_of_wp_marks Try.func28 rfl trivial ?_ rfl
  simp only [Try.ntmps28, List.size_toArray, List.length_cons, List.length_nil, Nat.reduceAdd, Nat.reduceSub, Array.replicate_succ, Array.replicate_zero, List.push_toArray, List.append_toArray, List.nil_append, List.cons_append]
  gi_wp2_with fail
  refine ⟨trivial, (callsIn_wide.2 (clusters_calls A0 l.length c1 _)).mono ?_⟩
  rintro e w1 ⟨rfl, rfl⟩
  gi_wp2_with fail
  refine wpIn_rangeFunc_enter rfl (by omega) (gf := 66) (lb := #[.pointer (some ⟨w.heap.size + 1, 0, none⟩)]) rfl trivial (enters_of Try.func66 (by kernel_rfl) rfl) ?_
  intro fn hfn rec W1 hrec hW1
  have hz : ((w.alloc (.cells #[.slice none 0 0] 41)).alloc (.cells #[.slice A0 l.length c1] 22)).heap.size = w.heap.size + 2 := by simp
  rw [hz] at hrec ⊢
  have hz1 : W1.heap.size = w.heap.size + 4 := by rw [hW1]; simp
  have hB0 : Below w.heap.size w W1 := by
    rw [hW1]
    exact ((((Below.refl _ w).alloc (Nat.le_refl _) _).alloc (by simp) _).alloc (by simp; omega) _).alloc (by simp; omega) _
  have x0 : W1.heap[w.heap.size]? = some (.cells #[.slice none 0 0] 41 (0, 0)) := by
    rw [hW1]
    exact (Below.heap_alloc _ _ _ (by simp; omega)).trans ((Below.heap_alloc _ _ _ (by simp; omega)).trans ((Below.heap_alloc _ _ _ (by simp)).trans (World.alloc_heap_new w _)))
  have x1 : W1.heap[w.heap.size + 1]? = some (.cells #[.slice A0 l.length c1] 22 (0, 0)) := by
    have := World.alloc_heap_new (w.alloc (.cells #[.slice none 0 0] 41)) (.cells #[.slice A0 l.length c1] 22)
    rw [World.size_alloc] at this
    rw [hW1]
    exact (Below.heap_alloc _ _ _ (by simp)).trans ((Below.heap_alloc _ _ _ (by simp)).trans this)
  have x2 : W1.heap[w.heap.size + 2]? = some (.deferred (some [])) := by
    have := World.alloc_heap_new ((w.alloc (.cells #[.slice none 0 0] 41)).alloc (.cells #[.slice A0 l.length c1] 22)) (.deferred (some []))
    rw [hz] at this
    rw [hW1]
    exact (Below.heap_alloc _ _ _ (by simp)).trans this
  have x3 : W1.heap[w.heap.size + 3]? = some (.loop rec) := by
    have := World.alloc_heap_new (((w.alloc (.cells #[.slice none 0 0] 41)).alloc (.cells #[.slice A0 l.length c1] 22)).alloc (.deferred (some []))) (.loop rec)
    rw [World.size_alloc, hz] at this
    rw [hW1]
    exact this
  clear hW1
  have hJY : ∀ (T : Nat → Prop) (pre : List (List Int)) (x : List Int) (v : Value) (W2 : World), AllJ w rec T pre W2 → W1.heap.size < W2.heap.size → (∀ j, T j → W1.heap.size < j) → x ≠ [] → Kd.V (Kd.int .i64) 3 W2 W2.heap.size (fun j => T j) v x → pre.length ≤ l.length →
      YieldAt Fence.wide (3 - 1) Try.prog (w.heap.size + 3) #[v] W2 fun e W' => e = .returned (.bool true) ∧ AllJ w rec T (pre ++ [x]) W' ∧ W2.heap.size ≤ W'.heap.size ∧ ∀ j, j < W2.heap.size → (j < w.heap.size ∨ j = W1.heap.size ∨ T j) → W'.heap[j]? = W2.heap[j]? := by
    rintro T pre x v W2 ⟨u, vals, h⟩ hsz hT hne hV hlen
    obtain ⟨xA, xc, rfl, hxl, hxf⟩ := hV
    have hl3 := h.lrec
    have hlt3 := blk_lt hl3
    rw [hrec] at hl3
    refine (yield_round (R := fun W3 => AllJ w rec T (pre ++ [x]) (W3.putObj (w.heap.size + 3) (.loop rec)) ∧ W2.heap.size ≤ W3.heap.size ∧ ∀ j, j < W2.heap.size → (j < w.heap.size ∨ j = W1.heap.size ∨ T j) → W3.heap[j]? = W2.heap[j]?) (trivial : Fence.wide.fn fn) rfl hl3
      { tmps := #[.slice A0 l.length c1, undef, .slice none 0 0, .pointer (some ⟨w.heap.size, 0, none⟩), .slice xA x.length xc, .slice A0 l.length c1, .func (.func 66) #[] #[.pointer (some ⟨w.heap.size + 1, 0, none⟩)], .slice xA x.length xc, undef, undef, undef, undef, undef], defers := [] } ?assign ?body).mono ?fin
    case fin =>
      rintro e W' ⟨W3, rfl, rfl, hl4, hj, hs, hf⟩
      refine ⟨rfl, by rw [hrec] at hj ⊢; exact hj, by simpa using hs, fun j hj' hc => ?_⟩
      refine (World.putObj_heap_other ?_).trans (hf j hj' hc)
      rcases hc with h1 | h1 | h1
      · omega
      · omega
      · have := hT j h1; omega
    case assign =>
      intro K hK
      gi_wp2_with fail
      exact hK
    case body =>
      generalize hWb : W2.putObj (w.heap.size + 3) _ = Wb
      have hsb : Wb.heap.size = W2.heap.size := by rw [← hWb]; simp
      have hob : ∀ j, j ≠ w.heap.size + 3 → Wb.heap[j]? = W2.heap[j]? := fun j hj => by rw [← hWb]; exact World.putObj_heap_other hj
      have hlb : Wb.heap[w.heap.size + 3]? = some (.loop { state := .busy, pending := none, fn, tmps := rec.tmps, params := rec.params, assign := rec.assign, body := rec.body, defers := rec.defers }) := by
        rw [← hWb, hrec]; exact World.putObj_heap_same hlt3
      have hbw : Below w.heap.size W2 Wb := by rw [← hWb]; exact belowK_b (w := w) (Nat.le_refl _) W2 _ _ _ (by omega) hl3 rfl rfl
      clear hWb
      have hbx : Boxed Wb w.heap.size 41 u := (hob _ (by omega)).trans h.box
      have hown : Wb.ownsRow w.heap.size 22 1 u pre.length vals := own_move h.row (fun k hk => hob k (by have := h.far k hk; omega))
      have hc := hbx.cell
      obtain ⟨i0, hi, hi0, hi1, hi2⟩ := info_parts info22
      have hlow := h.low.size
      have HSB := Aside0.mk hsb
      have hzb : w.heap.size ≤ Wb.heap.size := by omega
      have hpl : pre.length ≤ 100000 := by omega
      clear hsb
      gi_wp2_with (gi_at_builtin; refine Aside0.out ?_)
      refine ⟨?_⟩
      refine wpListIn_append_at _ rfl _ _ 41 rfl w.heap.size 22 i0 (.slice none 0 0) 1 24 Try.underlying41 hi hi0 hi1 hi2 rfl (by decide) _ _ _ rfl (hown.alloc _) ⟨Wb.heap.size, 0, none⟩ 1 1 [.slice xA x.length xc] rfl rfl (cell_one_new _ _ _) (by simp [Value.oneCell']) (Nat.le_trans (show pre.length + 1 ≤ 100001 by omega) (by decide)) (by omega) (by simp; omega) ?_
      intro v' w1 hown' hgrow hat
      obtain ⟨g', cap', rfl⟩ := ownsRow_succ hown'
      obtain ⟨hv1, hv2, hr2, hk2, hb2⟩ := hbx.appended (by decide) hown hzb (Nat.le_refl _) hown' hgrow
      have hc1 := hv1.cell
      have hf1 := hv1.frozen
      have HG := Aside0.mk hgrow
      have HA := Aside0.mk hat
      have HH := Aside0.mk h
      have HK := Aside0.mk hk2
      have HB2 := Aside0.mk hb2
      have HR2 := Aside0.mk hr2
      have HV2 := Aside0.mk hv2
      have HLB := Aside0.mk hlb
      have HREC := Aside0.mk hrec
      clear hrec hgrow hat h hk2 hb2 hr2 hv2 hlb hown hbx hc hv1 hl3
      gi_wp2_with fail
      clear hc1 hf1 hi hi0 hi1 hi2
      have hsb := HSB.out
      have same : ∀ k, k < W2.heap.size → k ≠ w.heap.size → k ≠ w.heap.size + 3 → some k ≠ u.ownBlock → (w1.setCell ⟨w.heap.size, 0, none⟩ (.slice (some ⟨g', 0, none⟩) (pre.length + 1) cap')).heap[k]? = W2.heap[k]? := fun k h1 h2 h3 h4 =>
        (Below.heap_setCell _ _ _ _ h2).trans ((HG.out.block k (by simp; omega) h4).trans ((Below.heap_alloc _ _ _ (by omega)).trans (hob k h3)))
      have hnew : ∀ k, k < W2.heap.size → some k ≠ u.ownBlock → some k ≠ (Value.slice (some ⟨g', 0, none⟩) (pre.length + 1) cap').ownBlock := fun k h1 h2 e => by
        rcases HA.out with h3 | h3
        · exact h2 (e.trans h3)
        · have := e.trans h3
          simp at this
          omega
      have hfar : ∀ k, (Value.slice (some ⟨g', 0, none⟩) (pre.length + 1) cap').ownBlock = some k → w.heap.size + 4 < k := fun k e => by
        rcases HA.out with h3 | h3
        · exact HH.out.far k (h3.symm.trans e)
        · have := h3.symm.trans e
          simp at this
          omega
      have hTu : ∀ k, T k → w.heap.size + 4 < k ∧ k < W2.heap.size ∧ some k ≠ u.ownBlock := HH.out.apart
      have hf3 : ∀ k, k ≠ w.heap.size + 3 → ((w1.setCell ⟨w.heap.size, 0, none⟩ (.slice (some ⟨g', 0, none⟩) (pre.length + 1) cap')).putObj (w.heap.size + 3) (.loop rec)).heap[k]? = (w1.setCell ⟨w.heap.size, 0, none⟩ (.slice (some ⟨g', 0, none⟩) (pre.length + 1) cap')).heap[k]? := fun k hk => World.putObj_heap_other hk
      have hlB := HLB.out
      have hl3' := HK.out.same _ _ HLB.out rfl
      have hsz3 : W2.heap.size ≤ (w1.setCell ⟨w.heap.size, 0, none⟩ (.slice (some ⟨g', 0, none⟩) (pre.length + 1) cap')).heap.size := by
        have := HK.out.size
        omega
      have hvl : vals.length = pre.length := by have := HH.out.row.1; omega
      refine ⟨?_, ⟨.slice (some ⟨g', 0, none⟩) (pre.length + 1) cap', vals ++ [.slice xA x.length xc], ?_⟩, by simpa using hsz3, ?_⟩
      · rw [hl3', HREC.out]
      · refine ⟨(hf3 _ (by omega)).trans HV2.out, ?_, fun j y u' hx hu => ?_, hfar, fun k hk => ?_, World.putObj_heap_same (blk_lt hl3'), ?_, ?_⟩
        · rw [List.length_append]
          exact own_move HR2.out (fun k hk => hf3 k (by have := hfar k hk; omega))
        · by_cases hj : j < pre.length
          · rw [List.getElem?_append_left hj] at hx
            rw [List.getElem?_append_left (by omega)] at hu
            exact Foot.mono (Foot.step (Foot.bound (HH.out.els j y u' hx hu)) (fun k hk hlt => (hf3 k (by omega)).trans (same k hlt (by omega) (by omega) hk.1.2))) (fun k hk => ⟨hk.1.1, hnew k hk.2 hk.1.2⟩)
          · obtain rfl : j = pre.length := by
              have := (List.getElem?_eq_some_iff.1 hx).1
              simp at this
              omega
            rw [List.getElem?_append_right (Nat.le_refl _)] at hx
            rw [List.getElem?_append_right (by omega)] at hu
            simp [hvl] at hx hu
            subst hx
            subst hu
            exact Foot.mono (Foot.step (Foot.bound (Foot.imp hxf (fun W' hC => ⟨xA, xc, rfl, hxl, hC⟩))) (fun k hk hlt => (hf3 k (by have := hTu k hk.1; omega)).trans (same k hlt (by have := hTu k hk.1; omega) (by have := hTu k hk.1; omega) (hTu k hk.1).2.2))) (fun k hk => ⟨(hTu k hk.1).1, hnew k hk.2 (hTu k hk.1).2.2⟩)
        · obtain ⟨h1, h2, h3⟩ := hTu k hk
          exact ⟨h1, Nat.lt_of_lt_of_le h2 (by simpa using hsz3), hnew k h2 h3⟩
        · exact (hf3 _ (by omega)).trans ((same _ (by omega) (by omega) (by omega) (fun e => by have := HH.out.far _ e.symm; omega)).trans HH.out.mark)
        · exact (HH.out.low.trans (hbw.trans HB2.out)).trans (belowK_b (w := w) (Nat.le_refl _) _ _ _ _ (by omega) hl3' rfl rfl)
      · intro j hj hc
        rcases hc with h1 | h1 | h1
        · exact same j hj (by omega) (by omega) (fun e => by have := HH.out.far _ e.symm; omega)
        · exact same j hj (by omega) (by omega) (fun e => by have := HH.out.far _ e.symm; omega)
        · obtain ⟨h2, h3, h4⟩ := hTu j h1
          exact same j hj (by omega) (by omega) h4
  refine (it_walk 3 (by omega) (w.heap.size + 3) (w.heap.size + 1) w.heap.size A0 c1 l hl (fun T pre W => AllJ w rec T pre W) W1 (by omega) (blk_cell x1 0) (fun B hB => (Kd.heap_int .i64).C (fun k hk => (hB k hk).trans (hB0.block k hk)) HR0.out) ?_ hJY ?_).mono ?_
  · intro T T' pre A B h1 h2 h3 h4
    exact AllJ_step T T' pre A B h1 h2 (fun j hj hne => h3 j hj (by omega)) (fun j hj => by have := h4 j hj; rw [hz1] at this; exact this)
  · exact ⟨.slice none 0 0, [], x0, World.ownsRow_nil _ _ _ _, fun j x u hx => (by simp at hx), fun k hk => (by simp [Value.ownBlock] at hk), fun _ h => h.elim, x3, x2, hB0⟩
  · rintro e W2 ⟨⟨v, rfl⟩, T, u, vals, h⟩
    have hl3 := h.lrec
    have hlt3 := blk_lt hl3
    rw [hrec] at hl3
    refine ⟨none, _, run_endLoop (P := Try.prog) hl3 (by simp), ?_⟩
    dsimp only
    have HH := Aside0.mk h
    have HLT := Aside0.mk hlt3
    generalize hW3 : W2.putObj (w.heap.size + 3) _ = W3
    have h3 : ∀ k, k ≠ w.heap.size + 3 → W3.heap[k]? = W2.heap[k]? := fun k hk => by rw [← hW3]; exact World.putObj_heap_other hk
    have hb3 : Below w.heap.size W2 W3 := by rw [← hW3]; exact belowK_b (w := w) (Nat.le_refl _) W2 _ _ _ (by omega) hl3 rfl rfl
    have hbx : Boxed W3 w.heap.size 41 u := (h3 _ (by omega)).trans h.box
    have hK : W3.heap[w.heap.size + 2]? = some (.deferred (some [])) := (h3 _ (by omega)).trans h.mark
    have hc := hbx.cell
    have H3 := Aside0.mk h3
    have HB3 := Aside0.mk hb3
    have HKK := Aside0.mk hK
    clear hW3 h3 hb3 hK hl3 h hbx hrec x0 x1 x2 x3 hJY
    gi_wp2_with fail
    refine ⟨by simp, .inl ⟨_, _, rfl, run_takeDeferred HKK.out, ?_⟩⟩
    refine ⟨_, results_tmp rfl _ _ _, u, rfl, AllJ_V HH.out (fun k hk => (World.putObj_heap_other (by omega)).trans (H3.out k (by omega))), (HH.out.low.trans HB3.out).trans (belowK_b (w := w) (Nat.le_refl _) _ _ _ _ (by omega) HKK.out rfl rfl)⟩

theorem seg_All.calls (A0 : Option Addr) (c1 : Nat) (l0 : List Int) (r : List (List Int)) (w : World) (hr0 : Kd.C (Kd.int .i64) w A0 l0.length l0) (hc0 : l0.length ≤ c1) (h : seg_All.f l0 = some r) :
    Calls Try.prog 28 #[.slice A0 l0.length c1] w fun e w' => ∃ v0_ : Value, e = .returned (v0_) ∧ Kd.V (Kd.slice 3 (Kd.int .i64)) 22 w' w.heap.size (fun k_ => (w.heap.size ≤ k_)) v0_ r ∧ Below w.heap.size w w' := by
  unfold seg_All.f at h
  split at h
  · cases h
    exact all_walk A0 c1 l0 w hr0 (by assumption)
  · cases h
end Go.Proofs.Ytcabijajjceghaa.G
