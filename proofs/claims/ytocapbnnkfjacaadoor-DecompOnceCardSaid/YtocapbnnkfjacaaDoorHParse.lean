/- internal strconv.ParseUint at base 16 of four digits as the table has them: their number. No condition. -/
import Derived.WalkKit
import Derived.IntWalk
import Derived.Test.YtocapbnnkfjacaaDoorHFmt
namespace Go.Proofs.YtocapbnnkfjacaaDoor.G
open Go.RowKit Go.Proofs.YtocapbnnkfjacaaDoorW.PrintWords Go.Proofs.YtocapbnnkfjacaaDoorW.PrintLast Go.Proofs.YtocapbnnkfjacaaDoorW.PrintMore
set_option linter.unusedVariables false
set_option linter.unusedSimpArgs false
open Go.Proofs.YtocapbnnkfjacaaDoor.D

theorem hd_nat (d : Nat) (h : d < 16) : (48 ≤ (hd d).toNat ∧ (hd d).toNat ≤ 57 ∧ (hd d).toNat = d + 48) ∨ (65 ≤ (hd d).toNat ∧ (hd d).toNat ≤ 70 ∧ (hd d).toNat = d + 55) := by
  have : ∀ k : Fin 16, (48 ≤ (hd k.val).toNat ∧ (hd k.val).toNat ≤ 57 ∧ (hd k.val).toNat = k.val + 48) ∨ (65 ≤ (hd k.val).toNat ∧ (hd k.val).toNat ≤ 70 ∧ (hd k.val).toNat = k.val + 55) := by decide
  exact this ⟨d, h⟩
theorem low32 (c : Nat) (h1 : 65 ≤ c) (h2 : c ≤ 70) : bits BinOp.or IntKind.u8 (c : Int) 32 = ((c + 32 : Nat) : Int) := by
  have : ∀ k : Fin 128, 65 ≤ k.val → k.val ≤ 70 → bits BinOp.or IntKind.u8 (k.val : Int) 32 = ((k.val + 32 : Nat) : Int) := by decide +kernel
  exact this ⟨c, by omega⟩ h1 h2
theorem lower_is (c : Nat) (h1 : 65 ≤ c) (h2 : c ≤ 70) (w : World) : Calls Tryd.prog 89 #[.int .u8 (c : Int)] w fun e w' => e = .returned (.int .u8 ((c + 32 : Nat) : Int)) ∧ w = w' := by
  have h := low32 c h1 h2
  go_enter Tryd.func89, Tryd.ntmps89
  go_wp2
  go_ret
  exact ⟨rfl, rfl⟩
def val4 (l : List Nat) (k : Nat) : Nat := (l.take k).foldl (fun a d => a * 16 + d) 0
theorem val4_small (l : List Nat) (h : ∀ d ∈ l, d < 16) : ∀ k, k ≤ 4 → k ≤ l.length → val4 l k < 16 ^ k := by
  intro k
  induction k with
  | zero => intro _ _; simp [val4]
  | succ k ih =>
    intro h4 hl
    have := ih (by omega) (by omega)
    have hd := h l[k] (List.getElem_mem (by omega))
    unfold val4 at *
    rw [List.take_succ_eq_append_getElem (by omega), List.foldl_append, Nat.pow_succ]
    simp only [List.foldl_cons, List.foldl_nil]
    omega
theorem val4_succ (l : List Nat) (k : Nat) (h : k < l.length) : val4 l (k + 1) = val4 l k * 16 + l[k] := by
  unfold val4
  rw [List.take_succ_eq_append_getElem h, List.foldl_append]
  rfl
theorem big_ge (v : Nat) (h : v < 4096) : decide ((1152921504606846976 : Int) ≤ (v : Int)) = false := decide_eq_false (by omega)
set_option maxHeartbeats 4000000 in
set_option maxRecDepth 100000 in
theorem puint (l : List Nat) (S : ByteArray) (hS : bytesOf S = l.map fun d => ((hd d).toNat : Int)) (hl : l.length = 4) (hd16 : ∀ d ∈ l, d < 16) (w : World) :
    Calls Tryd.prog 70 #[.string S, .int .i64 16, .int .i64 32] w fun e w' => e = .returned (.tuple #[.int .u64 (val4 l 4 : Nat), .nilIface]) ∧ Below w.heap.size w w' := by
  have hsz : S.size = 4 := by rw [← bytesOf_length, hS, List.length_map, hl]
  have hcv : ∀ W, (convert 9 58 (.string S)).run Tryd.prog W = .ok (.slice (some ⟨W.heap.size, 0, none⟩) 4 (grownCap W S.size 0 5)) (Lib.bytesWorld W 5 S) := fun W => by
    have := Lib.run_convert_string_bytes W 9 58 5 S Tryd.underlying9 Tryd.underlying58 Tryd.underlying5
    rw [this, hsz]
  have hne : S.toList ≠ [] := by
    intro e
    have h1 : S.toList.length = 0 := by rw [e]; rfl
    rw [ByteArray.toList_eq] at h1
    have h2 : S.data.toList.length = S.size := data_length S
    omega
  have he1 : S.toList.isEmpty = false := by cases h : S.toList with | nil => exact absurd h hne | cons a b => rfl
  have he2 : (S.toList == ([] : List UInt8)) = false := beq_eq_false_iff_ne.2 hne
  have hR := Aside0.mk (bytes_reads w 5 S (by omega))
  have HB := Aside0.mk (bytes_below (Below.refl w.heap.size w) (Nat.le_refl _) 5 S)
  have HS := Aside0.mk hS
  clear hS
  go_enter Tryd.func70, Tryd.ntmps70
  go_wp2_with fail
  go_loop [12, 13, 101] (fun us n i => ∃ k : Nat, us = .bool false ∧ k ≤ 4 ∧ i = .int .i64 (k : Int) ∧ n = .int .u64 ((val4 l k : Nat) : Int)) (fun _ _ i => 4 - (intOf i).toNat)
  case atStart => exact ⟨0, rfl, by decide, rfl, rfl⟩
  case round =>
    obtain ⟨k, rfl, hk, rfl, rfl⟩ := hrel
    by_cases hlt : k < 4
    · have hkl : k < l.length := by omega
      have hdk := hd16 l[k] (List.getElem_mem hkl)
      have hv := val4_small l hd16 k (by omega) (by omega)
      have hv2 : val4 l k < 4096 := Nat.lt_of_lt_of_le hv (Nat.le_trans (Nat.pow_le_pow_right (by decide) (show k ≤ 3 by omega)) (by decide))
      have hcell : (Lib.bytesWorld w 5 S).cell? ⟨w.heap.size, k, none⟩ = some (.int .u8 ((hd l[k]).toNat : Int)) := by
        have h1 := hR.out.2.2 (by omega)
        obtain ⟨ad, e1, h2⟩ := h1
        have h3 := h2 k (by omega)
        obtain rfl := Option.some.inj e1
        rw [HS.out] at h3
        have e2 : (⟨w.heap.size, 0, none⟩ : Addr).add k = ⟨w.heap.size, k, none⟩ := by simp [Addr.add]; omega
        rw [e2] at h3
        rw [h3]
        simp [hkl]
      have HV := Aside0.mk (val4_succ l k hkl)
      have c0 : decide ((k : Int) < 4) = true := decide_eq_true (by omega)
      clear hv
      rcases hd_nat l[k] hdk with ⟨b1, b2, b3⟩ | ⟨b1, b2, b3⟩
      · have HB3 := Aside0.mk b3
        clear b3
        obtain ⟨c, hcE⟩ : ∃ c, (hd l[k]).toNat = c := ⟨_, rfl⟩
        obtain ⟨v, hvE⟩ : ∃ v, val4 l k = v := ⟨_, rfl⟩
        rw [hcE] at hcell b1 b2 HB3
        rw [hvE] at hv2 HV ⊢
        clear hcE hvE
        have hco := big_ge v hv2
        go_wp2
        go_round
        case rel => exact ⟨k + 1, rfl, by omega, by go_num, by rw [HV.out]; congr 1; have := HB3.out; omega⟩
        case measure => simp [intOf]; omega
      · have HB3 := Aside0.mk b3
        clear b3
        obtain ⟨c, hcE⟩ : ∃ c, (hd l[k]).toNat = c := ⟨_, rfl⟩
        obtain ⟨v, hvE⟩ : ∃ v, val4 l k = v := ⟨_, rfl⟩
        rw [hcE] at hcell b1 b2 HB3
        rw [hvE] at hv2 HV ⊢
        clear hcE hvE
        have hco := big_ge v hv2
        go_wp2_with (go_at_call 89; refine (lower_is c b1 b2 _).mono ?_; rintro e w' ⟨rfl, rfl⟩)
        go_round
        case rel => exact ⟨k + 1, rfl, by omega, by go_num, by rw [HV.out]; congr 1; have := HB3.out; omega⟩
        case measure => simp [intOf]; omega
    · have c0 : decide ((k : Int) < 4) = false := decide_eq_false (by omega)
      have hk4 : k = 4 := by omega
      have HK := Aside0.mk hk4
      clear hk4
      go_wp2
      go_ret2
      exact ⟨by rw [HK.out]; rfl, HB.out⟩
end Go.Proofs.YtocapbnnkfjacaaDoor.G
