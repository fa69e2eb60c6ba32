/- Package decomp, plainly: the rows of the table, a value's digits, what the searches through the table's text come to. No condition. (Printed by mkdec.py.) -/
import Derived.Lib.IndexMore
import Derived.Lib.CutLaws
import Derived.Lib.Split
import Derived.Lib.Case
namespace Go.Proofs.YtocapbnnkfjacaaDoor.D
open Go
set_option linter.unusedVariables false
set_option linter.unusedSimpArgs false

def rowsD : List (Nat × List Nat) := [(160, [32]), (168, [32, 776]), (170, [97]), (175, [32, 772]), (178, [50]), (179, [51]), (180, [32, 769]), (181, [956]), (184, [32, 807]), (185, [49]), (186, [111]), (188, [49, 8260, 52]), (189, [49, 8260, 50]), (190, [51, 8260, 52]), (192, [65, 768]), (193, [65, 769]), (194, [65, 770]), (195, [65, 771]), (196, [65, 776]), (197, [65, 778]), (199, [67, 807]), (200, [69, 768]), (201, [69, 769]), (202, [69, 770]), (203, [69, 776]), (204, [73, 768]), (205, [73, 769]), (206, [73, 770]), (207, [73, 776]), (209, [78, 771]), (210, [79, 768]), (211, [79, 769]), (212, [79, 770]), (213, [79, 771]), (214, [79, 776]), (217, [85, 768]), (218, [85, 769]), (219, [85, 770]), (220, [85, 776]), (221, [89, 769]), (224, [97, 768]), (225, [97, 769]), (226, [97, 770]), (227, [97, 771]), (228, [97, 776]), (229, [97, 778]), (231, [99, 807]), (232, [101, 768]), (233, [101, 769]), (234, [101, 770]), (235, [101, 776]), (236, [105, 768]), (237, [105, 769]), (238, [105, 770]), (239, [105, 776]), (241, [110, 771]), (242, [111, 768]), (243, [111, 769]), (244, [111, 770]), (245, [111, 771]), (246, [111, 776]), (249, [117, 768]), (250, [117, 769]), (251, [117, 770]), (252, [117, 776]), (253, [121, 769]), (255, [121, 776]), (256, [65, 772]), (257, [97, 772]), (258, [65, 774]), (259, [97, 774]), (260, [65, 808]), (261, [97, 808]), (262, [67, 769]), (263, [99, 769]), (264, [67, 770]), (265, [99, 770]), (266, [67, 775]), (267, [99, 775]), (268, [67, 780]), (269, [99, 780]), (270, [68, 780]), (271, [100, 780]), (274, [69, 772]), (275, [101, 772]), (276, [69, 774]), (277, [101, 774]), (278, [69, 775]), (279, [101, 775]), (280, [69, 808]), (281, [101, 808]), (282, [69, 780]), (283, [101, 780]), (284, [71, 770]), (285, [103, 770]), (286, [71, 774]), (287, [103, 774]), (288, [71, 775]), (289, [103, 775]), (290, [71, 807]), (291, [103, 807]), (292, [72, 770]), (293, [104, 770]), (296, [73, 771]), (297, [105, 771]), (298, [73, 772]), (299, [105, 772]), (300, [73, 774]), (301, [105, 774]), (302, [73, 808]), (303, [105, 808]), (304, [73, 775]), (306, [73, 74]), (307, [105, 106]), (308, [74, 770]), (309, [106, 770]), (310, [75, 807]), (311, [107, 807]), (313, [76, 769]), (314, [108, 769]), (315, [76, 807]), (316, [108, 807]), (317, [76, 780]), (318, [108, 780]), (319, [76, 183]), (320, [108, 183]), (323, [78, 769]), (324, [110, 769]), (325, [78, 807]), (326, [110, 807]), (327, [78, 780]), (328, [110, 780]), (329, [700, 110]), (332, [79, 772]), (333, [111, 772]), (334, [79, 774]), (335, [111, 774]), (336, [79, 779]), (337, [111, 779]), (340, [82, 769]), (341, [114, 769]), (342, [82, 807]), (343, [114, 807]), (344, [82, 780]), (345, [114, 780]), (346, [83, 769]), (347, [115, 769]), (348, [83, 770]), (349, [115, 770]), (350, [83, 807]), (351, [115, 807]), (352, [83, 780]), (353, [115, 780]), (354, [84, 807]), (355, [116, 807]), (356, [84, 780]), (357, [116, 780]), (360, [85, 771]), (361, [117, 771]), (362, [85, 772]), (363, [117, 772]), (364, [85, 774]), (365, [117, 774]), (366, [85, 778]), (367, [117, 778]), (368, [85, 779]), (369, [117, 779]), (370, [85, 808]), (371, [117, 808]), (372, [87, 770]), (373, [119, 770]), (374, [89, 770]), (375, [121, 770]), (376, [89, 776]), (377, [90, 769]), (378, [122, 769]), (379, [90, 775]), (380, [122, 775]), (381, [90, 780]), (382, [122, 780]), (383, [115]), (416, [79, 795]), (417, [111, 795]), (431, [85, 795]), (432, [117, 795]), (902, [913, 769]), (903, [183]), (904, [917, 769]), (905, [919, 769]), (906, [921, 769]), (908, [927, 769]), (910, [933, 769]), (911, [937, 769]), (912, [953, 776, 769]), (938, [921, 776]), (939, [933, 776]), (940, [945, 769]), (941, [949, 769]), (942, [951, 769]), (943, [953, 769]), (944, [965, 776, 769]), (970, [953, 776]), (971, [965, 776]), (972, [959, 769]), (973, [965, 769]), (974, [969, 769]), (2392, [2325, 2364]), (2393, [2326, 2364]), (2394, [2327, 2364]), (7840, [65, 803]), (7841, [97, 803]), (7842, [65, 777]), (7843, [97, 777]), (7844, [65, 770, 769]), (7845, [97, 770, 769]), (7846, [65, 770, 768]), (7847, [97, 770, 768]), (7848, [65, 770, 777]), (7849, [97, 770, 777]), (7850, [65, 770, 771]), (7851, [97, 770, 771]), (7852, [65, 803, 770]), (7853, [97, 803, 770]), (7854, [65, 774, 769]), (7855, [97, 774, 769]), (7856, [65, 774, 768]), (7857, [97, 774, 768]), (7858, [65, 774, 777]), (7859, [97, 774, 777]), (7860, [65, 774, 771]), (7861, [97, 774, 771]), (7862, [65, 803, 774]), (7863, [97, 803, 774]), (7864, [69, 803]), (7865, [101, 803]), (7866, [69, 777]), (7867, [101, 777]), (7868, [69, 771]), (7869, [101, 771]), (7870, [69, 770, 769]), (7871, [101, 770, 769]), (7872, [69, 770, 768]), (7873, [101, 770, 768]), (7874, [69, 770, 777]), (7875, [101, 770, 777]), (7876, [69, 770, 771]), (7877, [101, 770, 771]), (7878, [69, 803, 770]), (7879, [101, 803, 770]), (7880, [73, 777]), (7881, [105, 777]), (7882, [73, 803]), (7883, [105, 803]), (7884, [79, 803]), (7885, [111, 803]), (7886, [79, 777]), (7887, [111, 777]), (7888, [79, 770, 769]), (7889, [111, 770, 769]), (7890, [79, 770, 768]), (7891, [111, 770, 768]), (7892, [79, 770, 777]), (7893, [111, 770, 777]), (7894, [79, 770, 771]), (7895, [111, 770, 771]), (7896, [79, 803, 770]), (7897, [111, 803, 770]), (7898, [79, 795, 769]), (7899, [111, 795, 769]), (7900, [79, 795, 768]), (7901, [111, 795, 768]), (7902, [79, 795, 777]), (7903, [111, 795, 777]), (7904, [79, 795, 771]), (7905, [111, 795, 771]), (7906, [79, 795, 803]), (7907, [111, 795, 803]), (7908, [85, 803]), (7909, [117, 803]), (7910, [85, 777]), (7911, [117, 777]), (7912, [85, 795, 769]), (7913, [117, 795, 769]), (7914, [85, 795, 768]), (7915, [117, 795, 768]), (7916, [85, 795, 777]), (7917, [117, 795, 777]), (7918, [85, 795, 771]), (7919, [117, 795, 771]), (7920, [85, 795, 803]), (7921, [117, 795, 803]), (7922, [89, 768]), (7923, [121, 768]), (7924, [89, 803]), (7925, [121, 803]), (7926, [89, 777]), (7927, [121, 777]), (7928, [89, 771]), (7929, [121, 771]), (8486, [937]), (8488, [90]), (8490, [75]), (8491, [65, 778]), (8544, [73]), (8545, [73, 73]), (8546, [73, 73, 73]), (8547, [73, 86]), (8548, [86]), (8549, [86, 73]), (8550, [86, 73, 73]), (8551, [86, 73, 73, 73]), (8552, [73, 88]), (8553, [88]), (8554, [88, 73]), (8555, [88, 73, 73]), (8556, [76]), (8557, [67]), (8558, [68]), (8559, [77]), (8560, [105]), (8561, [105, 105]), (8562, [105, 105, 105]), (8563, [105, 118]), (8564, [118]), (8565, [118, 105]), (8566, [118, 105, 105]), (8567, [118, 105, 105, 105]), (8568, [105, 120]), (8569, [120]), (8570, [120, 105]), (8571, [120, 105, 105]), (8572, [108]), (8573, [99]), (8574, [100]), (8575, [109]), (12364, [12363, 12441]), (12366, [12365, 12441]), (12368, [12367, 12441]), (12370, [12369, 12441]), (12372, [12371, 12441]), (12374, [12373, 12441]), (12376, [12375, 12441]), (12378, [12377, 12441]), (12380, [12379, 12441]), (12382, [12381, 12441]), (12384, [12383, 12441]), (12386, [12385, 12441]), (12389, [12388, 12441]), (12391, [12390, 12441]), (12393, [12392, 12441]), (12400, [12399, 12441]), (12460, [12459, 12441]), (12462, [12461, 12441]), (12464, [12463, 12441]), (12466, [12465, 12441]), (12468, [12467, 12441]), (12470, [12469, 12441]), (12472, [12471, 12441]), (12474, [12473, 12441]), (12476, [12475, 12441]), (12478, [12477, 12441]), (12480, [12479, 12441]), (12482, [12481, 12441]), (12485, [12484, 12441]), (12487, [12486, 12441]), (12489, [12488, 12441]), (12496, [12495, 12441]), (64256, [102, 102]), (64257, [102, 105]), (64258, [102, 108]), (64259, [102, 102, 105]), (64260, [102, 102, 108]), (64261, [115, 116]), (64262, [115, 116])]
/-- A hex digit, as the table has it. -/
def hd (n : Nat) : UInt8 := (if n < 10 then 48 + n else 55 + n).toUInt8
def hex4 (n : Nat) : List UInt8 := [hd (n / 4096 % 16), hd (n / 256 % 16), hd (n / 16 % 16), hd (n % 16)]
def vText : List Nat → List UInt8
  | [] => []
  | [v] => hex4 v
  | v :: w :: t => hex4 v ++ 44 :: vText (w :: t)
def rowT (p : Nat × List Nat) : List UInt8 := hex4 p.1 ++ 61 :: vText p.2
/-- The text: a blank ahead of each row, and one behind the last. -/
def tabT : List (Nat × List Nat) → List UInt8
  | [] => [32]
  | p :: R => 32 :: (rowT p ++ tabT R)
def lookup (R : List (Nat × List Nat)) (r : Nat) : Option (List Nat) := (R.find? fun p => p.1 == r).map (·.2)

theorem hd_plain (n : Nat) (h : n < 16) : hd n ≠ 32 ∧ hd n ≠ 61 ∧ hd n ≠ 44 := by
  have : ∀ k : Fin 16, hd k.val ≠ 32 ∧ hd k.val ≠ 61 ∧ hd k.val ≠ 44 := by decide
  exact this ⟨n, h⟩
theorem hex4_plain (n : Nat) : ∀ c ∈ hex4 n, c ≠ 32 ∧ c ≠ 61 ∧ c ≠ 44 := by
  intro c hc
  simp only [hex4, List.mem_cons, List.mem_nil_iff, or_false] at hc
  rcases hc with rfl | rfl | rfl | rfl <;> exact hd_plain _ (Nat.mod_lt _ (by decide))
theorem vText_plain : ∀ (l : List Nat), ∀ c ∈ vText l, c ≠ 32 ∧ c ≠ 61
  | [], c, hc => by simp [vText] at hc
  | [v], c, hc => ⟨(hex4_plain v c hc).1, (hex4_plain v c hc).2.1⟩
  | v :: w :: t, c, hc => by
    rw [vText, List.mem_append, List.mem_cons] at hc
    rcases hc with hc | rfl | hc
    · exact ⟨(hex4_plain v c hc).1, (hex4_plain v c hc).2.1⟩
    · exact ⟨by decide, by decide⟩
    · exact vText_plain (w :: t) c hc
theorem rowT_plain (p : Nat × List Nat) : ∀ c ∈ rowT p, c ≠ 32 := by
  intro c hc
  rw [rowT, List.mem_append, List.mem_cons] at hc
  rcases hc with hc | rfl | hc
  · exact (hex4_plain _ c hc).1
  · decide
  · exact (vText_plain _ c hc).1
theorem tabT_head (R : List (Nat × List Nat)) : ∃ t, tabT R = 32 :: t := by
  cases R <;> exact ⟨_, rfl⟩

/-! ### searches -/
theorem index_skip (b : UInt8) (sub : List UInt8) : ∀ (u v : List UInt8), (∀ c ∈ u, c ≠ b) → Lib.index (u ++ v) (b :: sub) = if Lib.index v (b :: sub) = -1 then -1 else Lib.index v (b :: sub) + u.length
  | [], v, _ => by simp
  | c :: u, v, h => by
    have hc := h c (by simp)
    have ih := index_skip b sub u v (fun x hx => h x (by simp [hx]))
    have hp : (b :: sub).isPrefixOf (c :: (u ++ v)) = false := by simp [List.isPrefixOf, Ne.symm hc]
    have hge := Lib.index_ge v (b :: sub)
    rw [List.cons_append, Lib.index, hp, ih]
    by_cases hv : Lib.index v (b :: sub) = -1
    · simp [hv]
    · have h1 : ¬ (Lib.index v (b :: sub) + (u.length : Int) = -1) := by omega
      simp [hv, h1]
      omega
theorem prefix_sep (s : UInt8) : ∀ (c k x : List UInt8), (∀ a ∈ c, a ≠ s) → (∀ a ∈ k, a ≠ s) → (c ++ [s]).isPrefixOf (k ++ s :: x) = decide (c = k)
  | [], [], x, _, _ => by simp [List.isPrefixOf]
  | [], b :: k, x, _, hk => by
    have := hk b (by simp)
    simp [List.isPrefixOf, Ne.symm this]
  | a :: c, [], x, hc, _ => by
    have := hc a (by simp)
    simp [List.isPrefixOf, this]
  | a :: c, b :: k, x, hc, hk => by
    have ih := prefix_sep s c k x (fun y hy => hc y (by simp [hy])) (fun y hy => hk y (by simp [hy]))
    rw [List.cons_append, List.cons_append, List.isPrefixOf, ih]
    by_cases h : a = b <;> simp [h]
/-- Where the text is looked through for a blank, digits and '='. -/
theorem index_tab (c : List UInt8) (hc : ∀ a ∈ c, a ≠ 61) : ∀ (R : List (Nat × List Nat)),
    match R.find? (fun p => hex4 p.1 == c) with
    | some p => ∃ (n : Nat) (R' : List (Nat × List Nat)), Lib.index (tabT R) (32 :: (c ++ [61])) = (n : Int) ∧ (tabT R).drop (n + (c.length + 2)) = vText p.2 ++ tabT R'
    | none => Lib.index (tabT R) (32 :: (c ++ [61])) = -1
  | [] => by
    simp [tabT, Lib.index, List.isPrefixOf]
  | p :: R => by
    have ih := index_tab c hc R
    rw [List.find?_cons]
    have hpre : (32 :: (c ++ [61])).isPrefixOf (tabT (p :: R)) = decide (c = hex4 p.1) := by
      rw [tabT, List.isPrefixOf, rowT, List.append_assoc, List.cons_append, prefix_sep 61 c (hex4 p.1) _ hc (fun a ha => (hex4_plain _ a ha).2.1)]
      simp
    by_cases h : c = hex4 p.1
    · have hb : (hex4 p.1 == c) = true := by rw [h]; simp
      rw [hb]
      refine ⟨0, R, ?_, ?_⟩
      · rw [tabT, Lib.index]
        rw [tabT] at hpre
        rw [hpre, decide_eq_true h]
        rfl
      · rw [tabT, rowT, h, Nat.zero_add]
        rw [show (hex4 p.1).length + 2 = ((hex4 p.1).length + 1) + 1 from rfl, List.drop_succ_cons, List.append_assoc, List.cons_append, List.drop_append]
        simp
    · have hb : (hex4 p.1 == c) = false := by
        rw [beq_eq_false_iff_ne]
        exact fun e => h e.symm
      rw [hb]
      have hi : Lib.index (tabT (p :: R)) (32 :: (c ++ [61])) = if Lib.index (tabT R) (32 :: (c ++ [61])) = -1 then -1 else Lib.index (tabT R) (32 :: (c ++ [61])) + ((rowT p).length + 1 : Nat) := by
        rw [tabT, Lib.index]
        rw [tabT] at hpre
        have hge := Lib.index_ge (tabT R) (32 :: (c ++ [61]))
        rw [hpre, decide_eq_false h, index_skip 32 (c ++ [61]) (rowT p) (tabT R) (rowT_plain p)]
        by_cases hv : Lib.index (tabT R) (32 :: (c ++ [61])) = -1
        · simp [hv]
        · have h1 : ¬ (Lib.index (tabT R) (32 :: (c ++ [61])) + ((rowT p).length : Int) = -1) := by omega
          simp [hv, h1]
          omega
      cases hf : R.find? (fun p => hex4 p.1 == c) with
      | none =>
        rw [hf] at ih
        show Lib.index (tabT (p :: R)) (32 :: (c ++ [61])) = -1
        rw [hi, if_pos ih]
      | some q =>
        rw [hf] at ih
        obtain ⟨n, R', h1, h2⟩ := ih
        refine ⟨n + ((rowT p).length + 1), R', ?_, ?_⟩
        · rw [hi, if_neg (by omega), h1]
          omega
        · rw [tabT, show n + ((rowT p).length + 1) + (c.length + 2) = ((rowT p).length + (n + (c.length + 2))) + 1 by omega, List.drop_succ_cons, List.drop_append, List.drop_of_length_le (by omega), List.nil_append, show (rowT p).length + (n + (c.length + 2)) - (rowT p).length = n + (c.length + 2) by omega, h2]
theorem cut_tab (c : List UInt8) (hc : ∀ a ∈ c, a ≠ 61) (R : List (Nat × List Nat)) :
    match R.find? (fun p => hex4 p.1 == c) with
    | some p => ∃ (R' : List (Nat × List Nat)), (Lib.cut (tabT R) (32 :: (c ++ [61]))).2 = (vText p.2 ++ tabT R', true)
    | none => (Lib.cut (tabT R) (32 :: (c ++ [61]))).2 = ([], false) := by
  have h := index_tab c hc R
  cases hf : R.find? (fun p => hex4 p.1 == c) with
  | none =>
    rw [hf] at h
    show (Lib.cut (tabT R) (32 :: (c ++ [61]))).2 = ([], false)
    unfold Lib.cut
    rw [show Lib.index (tabT R) (32 :: (c ++ [61])) = -1 from h]
    rfl
  | some p =>
    rw [hf] at h
    obtain ⟨n, R', h1, h2⟩ := h
    refine ⟨R', ?_⟩
    unfold Lib.cut
    rw [h1, if_pos (Int.natCast_nonneg _), Int.toNat_natCast]
    have hl : (32 :: (c ++ [61])).length = c.length + 2 := by simp
    rw [hl, h2]
theorem cut_row (vs : List Nat) (R' : List (Nat × List Nat)) : (Lib.cut (vText vs ++ tabT R') [32]).1 = vText vs := by
  obtain ⟨t, ht⟩ := tabT_head R'
  have hi : Lib.index (vText vs ++ tabT R') [32] = ((vText vs).length : Int) := by
    have h0 : Lib.index (tabT R') [32] = 0 := by rw [ht, Lib.index]; simp [List.isPrefixOf]
    rw [index_skip 32 [] (vText vs) (tabT R') (fun c hc => (vText_plain vs c hc).1), h0]
    simp
  unfold Lib.cut
  rw [hi, if_pos (Int.natCast_nonneg _), Int.toNat_natCast]
  simp
theorem split_rows : ∀ p ∈ rowsD, Lib.splitK [44] 0 (Lib.count (vText p.2) [44]) (vText p.2) = p.2.map hex4 := by decide +kernel
end Go.Proofs.YtocapbnnkfjacaaDoor.D

