/- strconv.FormatInt at base 16, of a number that is not negative: its digits. One cell of math/bits' table is asked. -/
import Derived.WalkKit
import Derived.Lib.Hide
import Derived.Test.YtocapbnnkfjacaaDoorG0
import Derived.Test.YtocapbnnkfjacaaDoorDecP
namespace Go.Proofs.YtocapbnnkfjacaaDoor.G
open Go.RowKit Go.Proofs.YtocapbnnkfjacaaDoorW.PrintWords Go.Proofs.YtocapbnnkfjacaaDoorW.PrintLast Go.Proofs.YtocapbnnkfjacaaDoorW.PrintMore
set_option linter.unusedVariables false
set_option linter.unusedSimpArgs false

def ld (n : Nat) : UInt8 := (if n < 10 then 48 + n else 87 + n).toUInt8
def hexF : Nat → Nat → List UInt8
  | 0, _ => []
  | k + 1, n => if n < 16 then [ld n] else hexF k (n / 16) ++ [ld (n % 16)]

theorem tz_at : IntKind.u64.wrap (bits BinOp.and IntKind.u64 16 (IntKind.u64.wrap (-16)) * 285870213051353865) / 288230376151711744 = 15 := by decide +kernel
theorem tz64 (w : World) (hT : w.cell? ⟨8, 15, none⟩ = some (.int .u8 4)) : Calls Tryd.prog 98 #[.int .u64 16] w fun e w' => e = .returned (.int .i64 4) ∧ w = w' := by
  have hq := tz_at
  go_enter Tryd.func98, Tryd.ntmps98
  go_wp2
  go_ret
  exact ⟨rfl, rfl⟩
theorem tz16 (w : World) (hT : w.cell? ⟨8, 15, none⟩ = some (.int .u8 4)) : Calls Tryd.prog 86 #[.int .u64 16] w fun e w' => e = .returned (.int .i64 4) ∧ w = w' := by
  go_enter Tryd.func86, Tryd.ntmps86
  go_wp2_with fail
  refine (tz64 w hT).mono ?_
  rintro e w' ⟨rfl, rfl⟩
  go_wp2_with fail
  go_ret
  exact ⟨rfl, rfl⟩
theorem pow2 (w : World) : Calls Tryd.prog 85 #[.int .i64 16] w fun e w' => e = .returned (.bool true) ∧ w = w' := by
  go_enter Tryd.func85, Tryd.ntmps85
  go_wp2
  go_ret
  exact ⟨by first | rfl | decide, rfl⟩

def cellsF (ds : List UInt8) : Array Value := (List.replicate (65 - ds.length) (Value.int .u8 0) ++ ds.map fun b => Value.int .u8 (b.toNat : Int)).toArray
theorem and15 (n : Nat) (h : n < 9223372036854775808) : bits BinOp.and IntKind.u64 (n : Int) 15 = ((n % 16 : Nat) : Int) := by
  have e : n &&& 15 = n % 16 := Nat.and_two_pow_sub_one_eq_mod n 4
  have hk : IntKind.bits .u64 = 64 := rfl
  have hn : n % 2 ^ 64 = n := Nat.mod_eq_of_lt (by omega)
  rw [← e]
  unfold bits
  simp only [hk, BitVec.toNat_and, BitVec.toNat_ofInt, BitVec.ofInt_natCast, BitVec.toNat_ofNat, hn]
  have h15 : ((15 : Int) % ((2 ^ 64 : Nat) : Int)).toNat = 15 := by decide
  rw [h15, e]
  have hm : n % 16 < 16 := Nat.mod_lt _ (by decide)
  generalize n % 16 = c at *
  have : ∀ c : Fin 16, IntKind.u64.wrap (c.val : Int) = (c.val : Int) := by decide +kernel
  exact this ⟨c, hm⟩
theorem dig_at (B : ByteArray) (hB : B.data.toList.take 16 = (List.range 16).map ld) (d : Nat) (h : d < 16) (hs : d < B.size) : B[d] = ld d := by
  have h1 : (B.data.toList.take 16)[d]? = some (ld d) := by rw [hB]; simp [h]
  rw [List.getElem?_take_of_lt h] at h1
  have h2 : B.data.toList[d]? = some B[d] := by
    rw [Array.getElem?_toList]
    exact Array.getElem?_eq_getElem hs
  rw [h2] at h1
  exact Option.some.inj h1
theorem cellsF_nil : Tryd.zeroCells109 = cellsF [] := by kernel_rfl
theorem cellsF_put (ds : List UInt8) (b b' : UInt8) (j : Nat) (hj : j + ds.length = 65) (h : ds.length ≤ 64) (hb : b' = b) : (cellsF ds).setIfInBounds (j - 1) (.int .u8 (b'.toNat : Int)) = cellsF (b :: ds) := by
  rw [hb]
  clear hb b'
  obtain rfl : j = 65 - ds.length := by omega
  rw [show 65 - ds.length - 1 = 64 - ds.length by omega]
  unfold cellsF
  rw [List.setIfInBounds_toArray]
  congr 1
  rw [List.set_append_left _ _ (by rw [List.length_replicate]; omega)]
  have e1 : 65 - ds.length = (64 - ds.length) + 1 := by omega
  have e2 : 65 - (b :: ds).length = 64 - ds.length := by rw [List.length_cons]; omega
  rw [e1, e2, List.replicate_succ', List.set_append_right _ _ (by simp), List.length_replicate, Nat.sub_self, List.map_cons]
  simp
theorem cellsF_at (ds : List UInt8) (i : Nat) (h : i < 65) (hl : ds.length ≤ 65) : ∃ v, (cellsF ds)[i]? = some v := by
  have : i < (cellsF ds).size := by simp [cellsF]; omega
  exact ⟨_, Array.getElem?_eq_getElem this⟩
theorem str_map (l : List UInt8) : strOfNums (l.map fun b => (b.toNat : Int)) = ⟨l.toArray⟩ := by
  unfold strOfNums
  congr 2
  rw [List.map_map]
  have : ((fun n : Int => UInt8.ofNat n.toNat) ∘ fun b : UInt8 => (b.toNat : Int)) = id := by funext b; simp
  first | rw [this, List.map_id] | (show List.map ((fun n : Int => UInt8.ofNat n.toNat) ∘ fun b : UInt8 => (b.toNat : Int)) l = l; rw [this, List.map_id])
theorem cells_C (g i n : Nat) (ds : List UInt8) (w : World) (hn : n = ds.length) (hi : i + ds.length = 65) (h : w.heap[g]? = some (.cells (cellsF ds) 109 (0, 0))) : Kd.C (Kd.int .u8) w (some ⟨g, i, none⟩) n (ds.map fun b => (b.toNat : Int)) := by
  subst hn
  refine Kd.C_of_reads (d := (0 : Int)) (h1 := fun _ => rfl) ⟨by simp, by omega, fun _ => ⟨_, rfl, fun j hj => ?_⟩⟩
  have e : (cellsF ds)[i + j]? = some (Value.int .u8 ((ds.map fun b => (b.toNat : Int)).getD j 0)) := by
    unfold cellsF
    rw [List.getElem?_toArray, List.getElem?_append_right (by rw [List.length_replicate]; omega), List.length_replicate, show i + j - (65 - ds.length) = j by omega]
    simp [hj]
  have ha : (⟨g, i, none⟩ : Addr).add j = ⟨g, i + j, none⟩ := by simp [Addr.add]
  rw [ha]
  exact (blk_cell h (i + j)).trans e
theorem low_next (n k : Nat) (hk : k ≤ 14) (h : n < 16 ^ (16 - k)) : n / 16 < 16 ^ (16 - (k + 1)) := by
  rw [show 16 - k = (16 - (k + 1)) + 1 by omega, Nat.pow_succ] at *
  exact Nat.div_lt_of_lt_mul (by rw [Nat.mul_comm]; exact h)
theorem hex_next (n : Nat) (ds : List UInt8) (hk : ds.length ≤ 14) (h : 16 ≤ n) : hexF (16 - ds.length) n ++ ds = hexF (16 - (ld (n % 16) :: ds).length) (n / 16) ++ ld (n % 16) :: ds := by
  rw [List.length_cons, show 16 - ds.length = (16 - (ds.length + 1)) + 1 by omega, hexF, if_neg (by omega)]
  simp
set_option maxHeartbeats 4000000 in
set_option maxRecDepth 100000 in
theorem fbits (r : Nat) (hr : r < 9223372036854775808) (w : World) (hT : w.cell? ⟨8, 15, none⟩ = some (.int .u8 4)) :
    Calls Tryd.prog 63 #[.slice none 0 0, .int .u64 r, .int .i64 16, .bool false, .bool false] w fun e w' => e = .returned (.tuple #[.slice none 0 0, .string ⟨(hexF 16 r).toArray⟩]) ∧ Below w.heap.size w w' := by
  have HT := Aside0.mk hT
  have hb := World.block_lt_of_cell? w _ hT
  clear hT
  go_enter Tryd.func63, Tryd.ntmps63
  have HB := Aside0.mk ((Below.refl w.heap.size w).alloc (Nat.le_refl _) (.cells Tryd.zeroCells109 109))
  have HG := Aside0.mk (blk_new w (.cells Tryd.zeroCells109 109))
  have HT1 := Aside0.mk ((HB.out.cell (p := ⟨8, 15, none⟩) hb).trans HT.out)
  go_wp2_with fail
  refine (pow2 _).mono ?_
  rintro e w1 ⟨rfl, rfl⟩
  go_wp2_with fail
  refine (tz16 _ HT1.out).mono ?_
  rintro e w1 ⟨rfl, rfl⟩
  go_wp2_with fail
  go_loopw [1, 13] (fun u i wr => ∃ (n j : Nat) (ds : List UInt8), j + ds.length = 65 ∧ ds.length ≤ 15 ∧ n < 9223372036854775808 ∧ Aside0 (n < 16 ^ (16 - ds.length)) ∧ Aside0 (hexF 16 r = hexF (16 - ds.length) n ++ ds) ∧ u = .int .u64 (n : Int) ∧ i = .int .i64 (j : Int) ∧ Aside0 (wr.heap[w.heap.size]? = some (.cells (cellsF ds) 109 (0, 0))) ∧ Aside0 (Below w.heap.size w wr)) (fun u _ _ => (intOf u).toNat)
  case atStart => exact ⟨r, 65, [], rfl, by decide, hr, ⟨Nat.lt_of_lt_of_le hr (by decide)⟩, ⟨by simp⟩, rfl, rfl, ⟨by rw [← cellsF_nil]; exact HG.out⟩, HB⟩
  case round =>
    obtain ⟨n, j, ds, hj, hd, hn, HN, HH, rfl, rfl, HK, HL⟩ := hrel
    have ha := and15 n hn
    obtain ⟨v, hv⟩ := cellsF_at ds (j - 1) (by omega) (by omega)
    have hc := blk_cell HK.out (j - 1)
    have hf := blk_frozen HK.out (j - 1)
    rw [hv] at hc
    have hm : n % 16 < 16 := Nat.mod_lt _ (by decide)
    by_cases hlt : 16 ≤ n
    · have c1 : decide ((16 : Int) ≤ (n : Int)) = true := decide_eq_true (by omega)
      have hd2 : ds.length ≤ 14 := by
        rcases Nat.lt_or_ge ds.length 15 with h | h
        · omega
        · have h15 : ds.length = 15 := by omega
          have h16 := HN.out
          rw [h15] at h16
          have h17 : n < 16 := h16
          exact absurd hlt (Nat.not_le.2 h17)
      go_wp2
      go_roundw
      case rel => exact ⟨n / 16, j - 1, ld (n % 16) :: ds, by rw [List.length_cons]; omega, by rw [List.length_cons]; omega, by omega, ⟨low_next n ds.length hd2 HN.out⟩, ⟨by rw [HH.out]; exact hex_next n ds hd2 hlt⟩, by first | rfl | (congr 1; omega), by first | rfl | (congr 1; omega), ⟨blk_put HK.out (j - 1) _ (cellsF_put ds _ _ j hj (by omega) (dig_at _ (by decide) _ hm _))⟩, ⟨Below.setCell HL.out (p := ⟨w.heap.size, j - 1, none⟩) (Nat.le_refl _) _⟩⟩
      case measure => simp [intOf]; omega
    · have c1 : decide ((16 : Int) ≤ (n : Int)) = false := decide_eq_false (by omega)
      have hdg : (⟨#[48, 49, 50, 51, 52, 53, 54, 55, 56, 57, 97, 98, 99, 100, 101, 102, 103, 104, 105, 106, 107, 108, 109, 110, 111, 112, 113, 114, 115, 116, 117, 118, 119, 120, 121, 122]⟩ : ByteArray)[n]'(by show n < 36; omega) = ld n := dig_at _ (by decide) n (by omega) _
      have hal : Tryd.prog.arrayLen 109 = 65 := by kernel_rfl
      have hsl : ∀ W, (Instr.sliceAt 109 (.pointer (some ⟨w.heap.size, 0, none⟩)) (some (.int .i64 ((j : Int) - 1))) none none).run Tryd.prog W = .ok (.slice (some ⟨w.heap.size, j - 1, none⟩) (66 - j) (66 - j)) W := fun W => by
        have e1 : ((j : Int) - 1).toNat = j - 1 := by omega
        have e2 : ¬ (65 = j - 1) := by omega
        have e3 : 65 - (j - 1) = 66 - j := by omega
        have e4 : ¬ (j - 1 = 0) := by omega
        rw [run_sliceAt_array_l W 109 ⟨w.heap.size, 0, none⟩ (by kernel_rfl) .i64 ((j : Int) - 1) (by omega) (by rw [hal]; omega)]
        rw [hal, e1, show (sizeOf (Tryd.prog.elem 109)).run Tryd.prog W = .ok 1 W from by kernel_rfl]
        simp [Result.andThen, slicedAt, Addr.add, e2, e3, e4]
      have HK1 := blk_put HK.out (j - 1) _ (cellsF_put ds (ld n) (ld n) j hj (by omega) rfl)
      have hcv := Kd.C_string (P := Tryd.prog) (src := 58) (dst := 9) (e := 5) (c := 66 - j) Tryd.underlying58 Tryd.underlying5 Tryd.underlying9 (cells_C w.heap.size (j - 1) (66 - j) (ld n :: ds) _ (by rw [List.length_cons]; omega) (by rw [List.length_cons]; omega) HK1)
      rw [str_map] at hcv
      have he : (⟨(ld n :: ds).toArray⟩ : ByteArray) = ⟨(hexF 16 r).toArray⟩ := by
        rw [HH.out, show 16 - ds.length = (15 - ds.length) + 1 by omega, hexF, if_pos (by omega)]
        rfl
      rw [he] at hcv
      have HC := Aside0.mk (Below.setCell HL.out (p := ⟨w.heap.size, j - 1, none⟩) (Nat.le_refl _) (.int .u8 ((ld n).toNat : Int)))
      clear HK1 he
      go_wp2
      go_ret2
      exact ⟨rfl, HC.out⟩
theorem fmt16 (r : Nat) (hr : r < 9223372036854775808) (w : World) (hT : w.cell? ⟨8, 15, none⟩ = some (.int .u8 4)) :
    Calls Tryd.prog 26 #[.int .i64 r, .int .i64 16] w fun e w' => e = .returned (.string ⟨(hexF 16 r).toArray⟩) ∧ Below w.heap.size w w' := by
  have HT := Aside0.mk hT
  clear hT
  have hc : ((r : Int) < 0) = False := by simp
  have c1 : decide ((r : Int) < 0) = false := decide_eq_false (by omega)
  have hw : IntKind.u64.wrap (r : Int) = (r : Int) := by rw [IntKind.wrap_u64]; omega
  clear hc
  go_enter Tryd.func26, Tryd.ntmps26
  go_wp2_with (first | (go_at_call 63; refine (fbits r hr _ HT.out).mono ?_; rintro e w1 ⟨rfl, hb1⟩; have HB1 := Aside0.mk hb1; clear hb1) | go_in)
  go_ret
  exact ⟨rfl, HB1.out⟩
end Go.Proofs.YtocapbnnkfjacaaDoor.G
