/- strconv.ParseInt at base 16 of four digits as the table has them: their number. No condition. -/
import Derived.WalkKit
import Derived.IntWalk
import Derived.Test.YtocapbnnkfjacaaDoorHParse
namespace Go.Proofs.YtocapbnnkfjacaaDoor.G
open Go.RowKit Go.Proofs.YtocapbnnkfjacaaDoorW.PrintWords Go.Proofs.YtocapbnnkfjacaaDoorW.PrintLast Go.Proofs.YtocapbnnkfjacaaDoorW.PrintMore
set_option linter.unusedVariables false
set_option linter.unusedSimpArgs false
open Go.Proofs.YtocapbnnkfjacaaDoor.D
theorem big31 (v : Nat) (h : v < 65536) : decide ((2147483648 : Int) ≤ (v : Int)) = false := decide_eq_false (by omega)
set_option maxHeartbeats 4000000 in
set_option maxRecDepth 100000 in
theorem ipint (l : List Nat) (S : ByteArray) (hS : bytesOf S = l.map fun d => ((hd d).toNat : Int)) (hl : l.length = 4) (hd16 : ∀ d ∈ l, d < 16) (w : World) :
    Calls Tryd.prog 46 #[.string S, .int .i64 16, .int .i64 32] w fun e w' => e = .returned (.tuple #[.int .i64 (val4 l 4 : Nat), .nilIface]) ∧ Below w.heap.size w w' := by
  have hsz : S.size = 4 := by rw [← bytesOf_length, hS, List.length_map, hl]
  have hne : S.toList ≠ [] := by
    intro e
    have h1 : S.toList.length = 0 := by rw [e]; rfl
    rw [ByteArray.toList_eq] at h1
    have h2 : S.data.toList.length = S.size := data_length S
    omega
  have he1 : S.toList.isEmpty = false := by cases h : S.toList with | nil => exact absurd h hne | cons a b => rfl
  have he2 : (S.toList == ([] : List UInt8)) = false := beq_eq_false_iff_ne.2 hne
  have hv := val4_small l hd16 4 (by omega) (by omega)
  have hd0 := hd_nat l[0] (hd16 _ (List.getElem_mem (by omega)))
  have HP := Aside0.mk (puint l S hS hl hd16)
  have hb0 : bt S 0 = ((hd l[0]).toNat : Int) := by
    rw [← rd_bytesOf, hS]
    simp [rd, hl]
  have HB0 := Aside0.mk hb0
  clear hS hb0
  have hv2 : val4 l 4 < 65536 := hv
  obtain ⟨v, hvE⟩ : ∃ v, val4 l 4 = v := ⟨_, rfl⟩
  rw [hvE] at hv2 HP ⊢
  obtain ⟨c, hcE⟩ : ∃ c, (hd l[0]).toNat = c := ⟨_, rfl⟩
  rw [hcE] at hd0 HB0
  have hc1 : 48 ≤ c ∧ c ≤ 70 := by omega
  obtain ⟨q1, q2⟩ := hc1
  have p1 : ((c : Int) == 43) = false := by simp; omega
  have p2 : ((c : Int) == 45) = false := by simp; omega
  have hbig := big31 v hv2
  have hwr : IntKind.i64.wrap (v : Int) = (v : Int) := IntWalk.i64_in _ (by omega)
  have hS0 : (S[0]'(by omega)).toNat = c := by
    have h1 := bt_at S 0 (by show (0 : Int).toNat < S.size; omega)
    rw [HB0.out] at h1
    exact Int.ofNat.inj h1
  clear hcE hvE hv hd0 hne
  go_enter Tryd.func46, Tryd.ntmps46
  go_wp2_with fail
  refine (HP.out _).mono ?_
  rintro e w1 ⟨rfl, hb1⟩
  have HB1 := Aside0.mk hb1
  clear hb1
  go_wp2_with fail
  go_ret2
  exact ⟨rfl, HB1.out⟩
theorem pint (l : List Nat) (S : ByteArray) (hS : bytesOf S = l.map fun d => ((hd d).toNat : Int)) (hl : l.length = 4) (hd16 : ∀ d ∈ l, d < 16) (w : World) :
    Calls Tryd.prog 29 #[.string S, .int .i64 16, .int .i64 32] w fun e w' => e = .returned (.tuple #[.int .i64 (val4 l 4 : Nat), .nilIface]) ∧ Below w.heap.size w w' := by
  have HP := Aside0.mk (ipint l S hS hl hd16)
  clear hS hl hd16
  go_enter Tryd.func29, Tryd.ntmps29
  go_wp2_with fail
  refine (HP.out _).mono ?_
  rintro e w1 ⟨rfl, hb1⟩
  have HB1 := Aside0.mk hb1
  clear hb1
  go_wp2_with fail
  go_ret2
  exact ⟨rfl, HB1.out⟩
end Go.Proofs.YtocapbnnkfjacaaDoor.G
