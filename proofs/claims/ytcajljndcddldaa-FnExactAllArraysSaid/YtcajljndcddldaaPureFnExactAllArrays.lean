/- For every list of whole numbers and every bound the program's AllArrays and the reference's give the same rows, and marks written into the rows are found again. No conditions. -/
import Derived.Test.YtcajljndcddldaaAaLaw
namespace Go.Proofs.Ytcajljndcddldaa.Pure
open Go.RowKit Go.Proofs.Ytcajljndcddldaa.PDa Go.Proofs.YtcajljndcddldaaW.PrintWords Go.Proofs.YtcajljndcddldaaW.PrintLast Go.Proofs.YtcajljndcddldaaW.PrintMore
set_option linter.unusedVariables false
set_option linter.unusedSimpArgs false
/-! ### Whole numbers as Go has them, and bits -/
theorem w64 {x : Int} (h0 : -9223372036854775808 ≤ x) (h1 : x < 9223372036854775808) : wrap64 x = x := by unfold wrap64; omega
/-- Bit j of a number. -/
def bit (m : Int) (j : Nat) : Bool := decide ((m / 2 ^ j) % 2 = 1)
theorem shr_small_ (m : Int) (j : Nat) (hj : j ≤ 64) : shr .i64 m (j : Int) = m / 2 ^ j := by
  unfold shr
  rw [Int.toNat_natCast, Nat.min_eq_left (by simpa [IntKind.bits] using hj)]
theorem shl_one (j : Nat) (hj : j ≤ 62) : shl .i64 1 (j : Int) = 2 ^ j := by
  unfold shl
  rw [Int.toNat_natCast, Nat.min_eq_left (by simp [IntKind.bits]; omega), Int.one_mul, i64_w]
  have h1 : (2 : Nat) ^ j ≤ 2 ^ 62 := Nat.pow_le_pow_right (by decide) hj
  have h2 : ((2 : Int) ^ j) = ((2 ^ j : Nat) : Int) := by simp
  have h3 : 0 < (2 : Nat) ^ j := Nat.pow_pos (by decide)
  rw [h2]
  exact w64 (by omega) (by omega)
theorem div_pow_bounds {m : Int} (h0 : 0 ≤ m) (h1 : m < 9223372036854775808) (j : Nat) : 0 ≤ m / 2 ^ j ∧ m / 2 ^ j < 9223372036854775808 := by
  have hp : (0 : Int) < 2 ^ j := Int.pow_pos (by decide)
  refine ⟨Int.ediv_nonneg h0 (Int.le_of_lt hp), Int.lt_of_le_of_lt (Int.ediv_le_self _ h0) h1⟩
theorem tmod_bit {m : Int} (h0 : 0 ≤ m) (j : Nat) (hj : j ≤ 64) : (Int.tmod (shr .i64 m (j : Int)) 2 = 1) ↔ bit m j = true := by
  rw [shr_small_ m j hj]
  have hp : (0 : Int) < 2 ^ j := Int.pow_pos (by decide)
  rw [Int.tmod_eq_emod_of_nonneg (Int.ediv_nonneg h0 (Int.le_of_lt hp))]
  simp [bit]
theorem p63 : (2 : Int) ^ 63 = 9223372036854775808 := by decide +kernel
theorem and_one {x : Int} (h0 : 0 ≤ x) (h1 : x < 9223372036854775808) : Go.bits .and .i64 x 1 = x % 2 := by
  exact bits_mask .i64 63 (by decide) (fun n h0 h1 => by rw [i64_w]; rw [p63] at h1; exact w64 (by omega) h1) 1 (by decide) x h0 (by rw [p63]; exact h1)
theorem has_bit {m : Int} (h0 : 0 ≤ m) (h1 : m < 9223372036854775808) (j : Nat) (hj : j ≤ 64) : (Go.bits .and .i64 (shr .i64 m (j : Int)) 1 == 1) = bit m j := by
  rw [shr_small_ m j hj]
  obtain ⟨h2, h3⟩ := div_pow_bounds h0 h1 j
  rw [and_one h2 h3]
  simp only [bit, Bool.beq_eq_decide_eq]
theorem bit_small {m : Int} {i j : Nat} (h0 : 0 ≤ m) (h1 : m < 2 ^ i) (hij : i ≤ j) : bit m j = false := by
  have h2 : m < 2 ^ j := Int.lt_of_lt_of_le h1 (by exact_mod_cast Nat.pow_le_pow_right (by decide) hij)
  simp only [bit, Int.ediv_eq_zero_of_lt h0 h2]
  decide
theorem pow_le62 {i : Nat} (hi : i ≤ 62) : (2 : Int) ^ i ≤ 4611686018427387904 := by
  have : (2 : Nat) ^ i ≤ 2 ^ 62 := Nat.pow_le_pow_right (by decide) hi
  have h2 : ((2 : Int) ^ i) = ((2 ^ i : Nat) : Int) := by simp
  rw [h2]
  omega
theorem rd_nat (l : List Int) (i : Nat) : rd l (i : Int) = l.getD i 0 := by unfold rd; rw [Int.toNat_natCast]
/-- A list of natural numbers as whole numbers. -/
def ints (l : List Nat) : List Int := l.map Int.ofNat
theorem ints_length (l : List Nat) : (ints l).length = l.length := by simp [ints]
theorem rd_ints {l : List Nat} {i : Nat} (h : i < l.length) : rd (ints l) (i : Int) = (l[i] : Int) := by
  rw [rd_nat, List.getD_eq_getElem?_getD, List.getElem?_eq_getElem (by rw [ints_length]; exact h)]
  simp [ints]
/-- The bits of a number below 10. -/
def bitsOf (m : Int) : List Nat := (List.range 10).filter (bit m)
theorem getD_of_lt {α : Type} (l : List α) (d : α) {i : Nat} (h : i < l.length) : l.getD i d = l[i] := by rw [List.getD_eq_getElem?_getD, List.getElem?_eq_getElem h]; rfl
/-! ### The elements of a set; valid posets -/
theorem has_eq {m : Int} (h0 : 0 ≤ m) (h1 : m < 9223372036854775808) (j : Nat) (hj : j ≤ 64) : impl_has.f m (j : Int) = some (bit m j) := by
  unfold impl_has.f
  rw [if_pos (Int.natCast_nonneg j), has_bit h0 h1 j hj]
theorem items_loop {m : Int} (h0 : 0 ≤ m) (h1 : m < 9223372036854775808) : ∀ (d i : Nat) (acc : List Nat) (k : Nat), i + d = 10 → acc.length ≤ i → d < k →
    impl_items.l0 k m (ints acc) (i : Int) = some (ints (acc ++ (List.range' i d).filter (bit m)))
  | 0, i, acc, k, hi, _, hk => by
    obtain ⟨k, rfl⟩ : ∃ m, k = m + 1 := ⟨k - 1, by omega⟩
    rw [impl_items.l0, if_neg (by omega)]
    simp
  | d + 1, i, acc, k, hi, ha, hk => by
    obtain ⟨k, rfl⟩ : ∃ m, k = m + 1 := ⟨k - 1, by omega⟩
    rw [impl_items.l0, if_pos (by omega), has_eq h0 h1 i (by omega), Option.bind_some, w64 (by omega) (by omega), List.range'_succ, List.filter_cons]
    have e : (i : Int) + 1 = ((i + 1 : Nat) : Int) := by omega
    cases hb : bit m i with
    | true =>
      rw [if_pos rfl, if_pos rfl, if_pos (by rw [ints_length]; omega), e, show ints acc ++ [(i : Int)] = ints (acc ++ [i]) by simp [ints]]
      rw [items_loop h0 h1 d (i + 1) (acc ++ [i]) k (by omega) (by simp; omega) (by omega)]
      simp
    | false =>
      rw [if_neg (by decide), if_neg (by decide), e]
      exact items_loop h0 h1 d (i + 1) acc k (by omega) (by omega) (by omega)
theorem items_eq {m : Int} (h0 : 0 ≤ m) (h1 : m < 9223372036854775808) (k : Nat) (hk : 10 < k) : impl_items.f k m = some (ints (bitsOf m)) := by
  unfold impl_items.f
  have := items_loop h0 h1 10 0 [] k rfl (Nat.le_refl 0) hk
  simpa [ints, bitsOf, List.range_eq_range'] using this
/-- One test of a poset's row: what lies below a lesser element lies below the element. -/
def okBit (l : List Int) (m : Int) (j : Nat) : Bool := !bit m j || (Go.bits .andNot .i64 (rd l (j : Int)) m == 0)
def okRow (l : List Int) (i : Nat) : Bool := decide (0 ≤ rd l (i : Int) ∧ rd l (i : Int) ≤ 2 ^ i - 1) && (List.range i).all (okBit l (rd l (i : Int)))
/-- Is it a poset? -/
def goodB (l : List Int) : Bool := decide (1 ≤ l.length ∧ l.length ≤ 10) && (List.range l.length).all (okRow l)
theorem within_eq (a b c : Int) : impl_within.f a b c = some (decide (b ≤ a ∧ a ≤ c)) := by
  unfold impl_within.f
  by_cases h : b ≤ a <;> simp [h]
theorem l1In_eq (a b c : Int) : spec_l1In.f a b c = some (decide (b ≤ a ∧ a ≤ c)) := by
  unfold spec_l1In.f
  by_cases h : a ≥ b
  · rw [if_pos h]; have : b ≤ a := h; simp [this]
  · rw [if_neg h]; have : ¬ b ≤ a := h; simp [this]
theorem bound_eq (i : Nat) (hi : i ≤ 62) : wrap64 (shl .i64 1 (i : Int) - 1) = 2 ^ i - 1 := by
  rw [shl_one i hi]
  have h1 := pow_le62 hi
  have h2 : (0 : Int) < 2 ^ i := Int.pow_pos (by decide)
  exact w64 (by omega) (by omega)
/-- The reference's row. -/
theorem po_l1 {l : List Int} {i : Nat} {m : Int} (hi : i < l.length) (hl : l.length ≤ 10) (h0 : 0 ≤ m) (n : Int) (x14 : List Int) (r : Bool) (K : Nat) (hr : ∀ k, K ≤ k → spec_poGood.l0 k x14 n (((i + 1 : Nat) : Int)) l = some r) :
    ∀ (d j k : Nat), j + d = i → K + d < k → spec_poGood.l1 k (i : Int) m (j : Int) x14 n (i : Int) l = some ((List.range' j d).all (okBit l m) && r)
  | 0, j, k, hj, hk => by
    obtain ⟨k, rfl⟩ : ∃ m, k = m + 1 := ⟨k - 1, by omega⟩
    rw [spec_poGood.l1, if_neg (by omega), w64 (by omega) (by omega), show (i : Int) + 1 = ((i + 1 : Nat) : Int) by omega, hr k (by omega)]
    simp
  | d + 1, j, k, hj, hk => by
    obtain ⟨k, rfl⟩ : ∃ m, k = m + 1 := ⟨k - 1, by omega⟩
    have ih := po_l1 hi hl h0 n x14 r K hr d (j + 1) k (by omega) (by omega)
    rw [spec_poGood.l1, if_pos (by omega), if_pos (by omega), w64 (by omega) (by omega), show (j : Int) + 1 = ((j + 1 : Nat) : Int) by omega, List.range'_succ, List.all_cons]
    by_cases hb : bit m j = true
    · rw [if_pos ((tmod_bit h0 j (by omega)).2 hb), if_pos (by omega)]
      by_cases hz : Go.bits .andNot .i64 (rd l (j : Int)) m = 0
      · rw [if_pos hz, ih]
        simp [okBit, hz]
      · rw [if_neg hz]
        simp [okBit, hz, hb]
    · rw [if_neg (fun h => hb ((tmod_bit h0 j (by omega)).1 h)), ih]
      simp [okBit, hb]
theorem po_l0 {l : List Int} (hl : l.length ≤ 10) : ∀ (d i k : Nat), i + d = l.length → 12 * d < k → spec_poGood.l0 k l (l.length : Int) (i : Int) l = some ((List.range' i d).all (okRow l))
  | 0, i, k, hi, hk => by
    obtain ⟨k, rfl⟩ : ∃ m, k = m + 1 := ⟨k - 1, by omega⟩
    rw [spec_poGood.l0, if_neg (by omega)]
    simp
  | d + 1, i, k, hi, hk => by
    obtain ⟨k, rfl⟩ : ∃ m, k = m + 1 := ⟨k - 1, by omega⟩
    rw [spec_poGood.l0, if_pos (by omega), if_pos (by omega), if_pos (by omega), bound_eq i (by omega), l1In_eq, Option.bind_some, List.range'_succ, List.all_cons]
    by_cases hb : 0 ≤ rd l (i : Int) ∧ rd l (i : Int) ≤ 2 ^ i - 1
    · rw [if_pos (by simp [hb]), show (0 : Int) = ((0 : Nat) : Int) from rfl, po_l1 (by omega) hl hb.1 _ _ _ (12 * d + 1) (fun k hk => po_l0 hl d (i + 1) k (by omega) (by omega)) i 0 k (by omega) (by omega)]
      simp only [okRow, hb, List.range_eq_range', and_self, decide_true, Bool.true_and]
    · rw [if_neg (by simpa using hb)]
      simp only [okRow, hb, decide_false, Bool.false_and]
theorem poGood_eq (l : List Int) (k : Nat) (hk : 200 ≤ k) : spec_poGood.f k l = some (goodB l) := by
  unfold spec_poGood.f
  rw [l1In_eq, Option.bind_some]
  by_cases h : 1 ≤ l.length ∧ l.length ≤ 10
  · rw [if_pos (by simp; omega), show (0 : Int) = ((0 : Nat) : Int) from rfl, po_l0 h.2 l.length 0 k (by omega) (by omega)]
    simp [goodB, h, List.range_eq_range']
  · rw [if_neg (by simp; omega)]
    simp [goodB, h]
/-- The program's row. -/
theorem is_l1 {l : List Int} {i : Nat} {m : Int} (n : Int) (x12 : List Int) (r : Bool) (K : Nat) (hi : i < l.length) (hl : l.length ≤ 10) (hr : ∀ k, K ≤ k → impl_IsPoset.l0 k x12 n (((i + 1 : Nat) : Int)) l = some r) (es : List Nat) (hes : ∀ e ∈ es, e < i) (hel : es.length ≤ 10) :
    ∀ (d p k : Nat), p + d = es.length → K + d < k → impl_IsPoset.l1 k m x12 n (i : Int) (ints es) ((ints es).length : Int) (p : Int) l = some ((es.drop p).all (fun j => Go.bits .andNot .i64 (rd l (j : Int)) m == 0) && r)
  | 0, p, k, hp, hk => by
    obtain ⟨k, rfl⟩ : ∃ m, k = m + 1 := ⟨k - 1, by omega⟩
    rw [impl_IsPoset.l1, if_neg (by rw [ints_length]; omega), w64 (by omega) (by omega), show (i : Int) + 1 = ((i + 1 : Nat) : Int) by omega, hr k (by omega), List.drop_of_length_le (by omega)]
    simp
  | d + 1, p, k, hp, hk => by
    obtain ⟨k, rfl⟩ : ∃ m, k = m + 1 := ⟨k - 1, by omega⟩
    have ih := is_l1 (m := m) n x12 r K hi hl hr es hes hel d (p + 1) k (by omega) (by omega)
    have hpl : p < es.length := by omega
    have he : es[p] < i := hes _ (List.getElem_mem hpl)
    rw [impl_IsPoset.l1, if_pos (by rw [ints_length]; omega), if_pos (by omega), if_pos (by rw [ints_length]; omega), rd_ints hpl, if_pos (by omega), if_pos (by omega), w64 (by omega) (by omega), show (p : Int) + 1 = ((p + 1 : Nat) : Int) by omega, ih, List.drop_eq_getElem_cons hpl, List.all_cons]
    by_cases hz : Go.bits .andNot .i64 (rd l (es[p] : Int)) m = 0
    · rw [if_pos hz]; simp [hz]
    · rw [if_neg hz]; simp [hz]
theorem bitsOf_lt {m : Int} {i : Nat} (h0 : 0 ≤ m) (h1 : m ≤ 2 ^ i - 1) : ∀ e ∈ bitsOf m, e < i := by
  intro e he
  have hb := (List.mem_filter.1 he).2
  rcases Nat.lt_or_ge e i with h | h
  · exact h
  · rw [bit_small h0 (by omega) h] at hb
    cases hb
theorem bitsOf_length (m : Int) : (bitsOf m).length ≤ 10 := Nat.le_trans (List.length_filter_le _ _) (by simp)
/-- The bits below i, told by all numbers below i. -/
theorem bitsOf_range {m : Int} {i : Nat} (hi : i ≤ 10) (h0 : 0 ≤ m) (h1 : m ≤ 2 ^ i - 1) : bitsOf m = (List.range i).filter (bit m) := by
  unfold bitsOf
  have h2 : List.range 10 = List.range i ++ List.range' i (10 - i) := by
    rw [List.range_eq_range', List.range_eq_range', show List.range' i (10 - i) = List.range' (0 + i) (10 - i) by rw [Nat.zero_add], List.range'_append_1, show i + (10 - i) = 10 by omega]
  rw [h2, List.filter_append]
  have h3 : (List.range' i (10 - i)).filter (bit m) = [] := by
    refine List.filter_eq_nil_iff.2 (fun e he => ?_)
    have := (List.mem_range'_1.1 he).1
    rw [bit_small h0 (by omega) this]
    decide
  rw [h3, List.append_nil]
theorem all_bits {m : Int} {i : Nat} (hi : i ≤ 10) (l : List Int) (h0 : 0 ≤ m) (h1 : m ≤ 2 ^ i - 1) : (bitsOf m).all (fun j => Go.bits .andNot .i64 (rd l (j : Int)) m == 0) = (List.range i).all (okBit l m) := by
  rw [bitsOf_range hi h0 h1, List.all_filter]
  rfl
theorem is_l0 {l : List Int} (hl : l.length ≤ 10) : ∀ (d i k : Nat), i + d = l.length → 22 + 12 * d < k → impl_IsPoset.l0 k l (l.length : Int) (i : Int) l = some ((List.range' i d).all (okRow l))
  | 0, i, k, hi, hk => by
    obtain ⟨k, rfl⟩ : ∃ m, k = m + 1 := ⟨k - 1, by omega⟩
    rw [impl_IsPoset.l0, if_neg (by omega)]
    simp
  | d + 1, i, k, hi, hk => by
    obtain ⟨k, rfl⟩ : ∃ m, k = m + 1 := ⟨k - 1, by omega⟩
    rw [impl_IsPoset.l0, if_pos (by omega), if_pos (by omega), if_pos (by omega), bound_eq i (by omega), within_eq, Option.bind_some, List.range'_succ, List.all_cons]
    by_cases hb : 0 ≤ rd l (i : Int) ∧ rd l (i : Int) ≤ 2 ^ i - 1
    · have hp := pow_le62 (i := i) (by omega)
      have hlen := bitsOf_length (rd l (i : Int))
      rw [if_pos (by simp [hb]), items_eq hb.1 (by omega) k (by omega), Option.bind_some, show (0 : Int) = ((0 : Nat) : Int) from rfl,
        is_l1 _ _ _ (22 + 12 * d + 1) (by omega) hl (fun k hk => is_l0 hl d (i + 1) k (by omega) (by omega)) (bitsOf (rd l (i : Int))) (bitsOf_lt hb.1 hb.2) hlen (bitsOf (rd l (i : Int))).length 0 k (by omega) (by omega), List.drop_zero, all_bits (by omega) l hb.1 hb.2]
      simp only [okRow, hb, and_self, decide_true, Bool.true_and]
    · rw [if_neg (by simpa using hb)]
      simp only [okRow, hb, decide_false, Bool.false_and]
theorem n_eq (l : List Int) : impl_Poset_n.f l = some (l.length : Int) := rfl
theorem IsPoset_eq (l : List Int) (k : Nat) (hk : 200 ≤ k) : impl_IsPoset.f k l = some (goodB l) := by
  unfold impl_IsPoset.f
  rw [n_eq, Option.bind_some, within_eq, Option.bind_some]
  by_cases h : 1 ≤ l.length ∧ l.length ≤ 10
  · rw [if_pos (by simp; omega), show (0 : Int) = ((0 : Nat) : Int) from rfl, is_l0 h.2 l.length 0 k (by omega) (by omega)]
    simp [goodB, h, List.range_eq_range']
  · rw [if_neg (by simp; omega)]
    simp [goodB, h]
theorem goodB_row {l : List Int} (h : goodB l = true) {i : Nat} (hi : i < l.length) : 0 ≤ rd l (i : Int) ∧ rd l (i : Int) ≤ 2 ^ i - 1 := by
  simp only [goodB, Bool.and_eq_true, List.all_eq_true] at h
  have := h.2 i (List.mem_range.2 hi)
  simp only [okRow, Bool.and_eq_true, decide_eq_true_eq] at this
  exact this.1
theorem goodB_len {l : List Int} (h : goodB l = true) : 1 ≤ l.length ∧ l.length ≤ 10 := by
  simp only [goodB, Bool.and_eq_true, decide_eq_true_eq] at h
  exact h.1
/-! ### All arrays -/
def up2 (a b : Int) : Int := if a < b then b else a
/-- The least number that may stand behind x. -/
def least (l x : List Int) : Int := ((List.range x.length).filter (bit (rd l (x.length : Int)))).foldl (fun a (j : Nat) => up2 a (rd x (j : Int))) 0
def allx (l : List Int) (m : Int) : Nat → List Int → List (List Int)
  | 0, x => [x]
  | d + 1, x => (List.range (m + 1 - least l x).toNat).flatMap fun (j : Nat) => allx l m d (x ++ [least l x + (j : Int)])
theorem up2_ge (a b : Int) : a ≤ up2 a b := by unfold up2; split <;> omega
theorem foldl_ge {β : Type} (f : β → Int) : ∀ (es : List β) (a : Int), a ≤ es.foldl (fun a j => up2 a (f j)) a
  | [], a => Int.le_refl a
  | e :: es, a => Int.le_trans (up2_ge a (f e)) (foldl_ge f es _)
theorem least_nonneg (l x : List Int) : 0 ≤ least l x := foldl_ge _ _ _
theorem flatMap_le {α β : Type} (f : α → List β) (B : Nat) : ∀ (l : List α), (∀ x ∈ l, (f x).length ≤ B) → (l.flatMap f).length ≤ l.length * B
  | [], _ => by simp
  | x :: l, h => by
    rw [List.flatMap_cons, List.length_append, List.length_cons, Nat.succ_mul]
    have h1 := h x List.mem_cons_self
    have h2 := flatMap_le f B l (fun y hy => h y (List.mem_cons_of_mem _ hy))
    omega
theorem allx_length (l : List Int) (m : Int) (hm : m ≤ 4) : ∀ (d : Nat) (x : List Int), (allx l m d x).length ≤ 5 ^ d
  | 0, x => by simp [allx]
  | d + 1, x => by
    have h1 := flatMap_le (fun (j : Nat) => allx l m d (x ++ [least l x + (j : Int)])) (5 ^ d) (List.range (m + 1 - least l x).toNat) (fun j _ => allx_length l m hm d _)
    have h2 := least_nonneg l x
    rw [List.length_range] at h1
    have h3 : (m + 1 - least l x).toNat * 5 ^ d ≤ 5 * 5 ^ d := Nat.mul_le_mul_right _ (by omega)
    rw [Nat.pow_succ, Nat.mul_comm (5 ^ d) 5]
    exact Nat.le_trans h1 h3
theorem pow5 {d : Nat} (h : d ≤ 6) : 5 ^ d ≤ 15625 := by
  have : (5 : Nat) ^ d ≤ 5 ^ 6 := Nat.pow_le_pow_right (by decide) h
  simpa using this
theorem own_eq (l : List Int) (h : l.length < 17592186044416) : spec_l1Own.f l = some l := by
  unfold spec_l1Own.f
  rw [Option.bind_some, if_pos (by simpa using h)]
  rfl
theorem most_eq (a b : Int) : spec_l1Most.f a b = some (up2 a b) := by
  unfold spec_l1Most.f up2
  by_cases h : a > b
  · rw [if_pos h, if_neg (by omega)]
  · rw [if_neg h]
    by_cases h2 : a < b
    · rw [if_pos h2]
    · rw [if_neg h2, show a = b by omega]
theorem poIn_eq {m : Int} (h0 : 0 ≤ m) (j : Nat) (hj : j ≤ 64) : spec_poIn.f m (j : Int) = some (bit m j) := by
  unfold spec_poIn.f
  rw [if_pos (Int.natCast_nonneg j)]
  congr 1
  rw [Bool.eq_iff_iff, beq_iff_eq]
  exact tmod_bit h0 j hj
theorem pc_l0 {l x : List Int} (m : Int) (hx : x.length < l.length) (hl : l.length ≤ 10) (h0 : 0 ≤ rd l (x.length : Int)) (r : List (List Int)) (K : Nat) :
    ∀ (d i k : Nat) (low : Int), i + d = x.length → K + d < k → (∀ k, K ≤ k → spec_pcAll.l1 k x m ([] : List (List Int)) (((List.range' i d).filter (bit (rd l (x.length : Int)))).foldl (fun a (j : Nat) => up2 a (rd x (j : Int))) low) l = some r) →
      spec_pcAll.l0 k x m (x.length : Int) low x (x.length : Int) (i : Int) l = some r
  | 0, i, k, low, hi, hk, hr => by
    obtain ⟨k, rfl⟩ : ∃ m, k = m + 1 := ⟨k - 1, by omega⟩
    rw [spec_pcAll.l0, if_neg (by omega)]
    simpa using hr k (by omega)
  | d + 1, i, k, low, hi, hk, hr => by
    obtain ⟨k, rfl⟩ : ∃ m, k = m + 1 := ⟨k - 1, by omega⟩
    rw [spec_pcAll.l0, if_pos (by omega), if_pos (by omega), if_pos (by omega), if_pos (by omega), if_pos (by omega), poIn_eq h0 i (by omega), Option.bind_some, w64 (by omega) (by omega), show (i : Int) + 1 = ((i + 1 : Nat) : Int) by omega]
    cases hb : bit (rd l (x.length : Int)) i with
    | true =>
      rw [if_pos rfl, most_eq, Option.bind_some]
      refine pc_l0 m hx hl h0 r K d (i + 1) k _ (by omega) (by omega) (fun k hk => ?_)
      have := hr k hk
      rwa [List.range'_succ, List.filter_cons, if_pos hb, List.foldl_cons] at this
    | false =>
      rw [if_neg (by decide)]
      refine pc_l0 m hx hl h0 r K d (i + 1) k _ (by omega) (by omega) (fun k hk => ?_)
      have := hr k hk
      rwa [List.range'_succ, List.filter_cons, if_neg (by rw [hb]; decide)] at this
theorem pc_l1 {l x : List Int} (m lo : Int) (hm : m ≤ 4) (hlo : 0 ≤ lo) (hxl : x.length < 10) (dd K : Nat) (hd : dd ≤ 6) (hf : ∀ y : Int, lo ≤ y → y ≤ m → ∀ k, K ≤ k → spec_pcAll.f k l (x ++ [y]) m = some (allx l m dd (x ++ [y]))) :
    ∀ (d j k : Nat) (acc : List (List Int)), j + d = (m + 1 - lo).toNat → acc.length ≤ j * 15625 → K + d < k → spec_pcAll.l1 k x m acc (lo + (j : Int)) l = some (acc ++ (List.range' j d).flatMap fun (j : Nat) => allx l m dd (x ++ [lo + (j : Int)]))
  | 0, j, k, acc, hj, ha, hk => by
    obtain ⟨k, rfl⟩ : ∃ m, k = m + 1 := ⟨k - 1, by omega⟩
    rw [spec_pcAll.l1, if_neg (by omega)]
    simp
  | d + 1, j, k, acc, hj, ha, hk => by
    obtain ⟨k, rfl⟩ : ∃ m, k = m + 1 := ⟨k - 1, by omega⟩
    have hb := allx_length l m hm dd (x ++ [lo + (j : Int)])
    have h5 := pow5 hd
    rw [spec_pcAll.l1, if_pos (by omega), own_eq x (by omega), Option.bind_some, Option.bind_some, if_pos (by simp; omega), hf _ (by omega) (by omega) k (by omega), Option.bind_some, if_pos (by omega), w64 (by omega) (by omega), show lo + (j : Int) + 1 = lo + ((j + 1 : Nat) : Int) by omega,
      pc_l1 m lo hm hlo hxl dd K hd hf d (j + 1) k _ (by omega) (by rw [List.length_append]; omega) (by omega), List.range'_succ, List.flatMap_cons, List.append_assoc]
theorem pc_f {l : List Int} (hl : l.length ≤ 6) (hg : ∀ i : Nat, i < l.length → 0 ≤ rd l (i : Int)) (m : Int) (hm : m ≤ 4) : ∀ (d : Nat) (x : List Int) (k : Nat), x.length + d = l.length → 30 * d + 1 ≤ k → spec_pcAll.f k l x m = some (allx l m d x)
  | 0, x, k, hx, hk => by
    obtain ⟨k, rfl⟩ : ∃ m, k = m + 1 := ⟨k - 1, by omega⟩
    rw [spec_pcAll.f, if_pos (by omega), own_eq x (by omega)]
    rfl
  | d + 1, x, k, hx, hk => by
    obtain ⟨k, rfl⟩ : ∃ m, k = m + 1 := ⟨k - 1, by omega⟩
    have h0 := least_nonneg l x
    rw [spec_pcAll.f, if_neg (by omega), show (0 : Int) = ((0 : Nat) : Int) from rfl]
    refine pc_l0 m (by omega) (by omega) (hg _ (by omega)) _ (30 * d + 10) x.length 0 k _ (by omega) (by omega) (fun k hk => ?_)
    rw [← List.range_eq_range']
    have := pc_l1 (l := l) (x := x) m (least l x) hm h0 (by omega) d (30 * d + 1) (by omega) (fun y _ _ k hk => pc_f hl hg m hm d (x ++ [y]) k (by simp; omega) hk) (m + 1 - least l x).toNat 0 k [] (by omega) (by simp) (by omega)
    rw [List.nil_append, ← List.range_eq_range', show least l x + ((0 : Nat) : Int) = least l x by omega] at this
    exact this
/-! The program's labels. -/
theorem leastM_eq (fs : List Int) : ∀ (es : List Nat) (a : Int), (∀ e ∈ es, e < fs.length) → impl_Poset_labels_1.least fs (ints es) a = some (es.foldl (fun a (j : Nat) => up2 a (rd fs (j : Int))) a)
  | [], a, _ => rfl
  | e :: es, a, h => by
    have h1 := leastM_eq fs es (up2 a (rd fs (e : Int))) (fun z hz => h z (List.mem_cons_of_mem _ hz))
    have h2 := h e List.mem_cons_self
    unfold impl_Poset_labels_1.least at h1 ⊢
    rw [show ints (e :: es) = (e : Int) :: ints es from rfl, List.foldlM_cons, if_pos ⟨Int.natCast_nonneg e, by omega⟩]
    show Option.bind (some _) _ = _
    rw [Option.bind_some]
    exact h1
theorem foldl_congr_mem {α β : Type} (f g : β → α → β) : ∀ (l : List α) (b : β), (∀ b, ∀ x ∈ l, f b x = g b x) → l.foldl f b = l.foldl g b
  | [], _, _ => rfl
  | x :: l, b, h => by
    rw [List.foldl_cons, List.foldl_cons, h b x List.mem_cons_self]
    exact foldl_congr_mem f g l _ (fun b y hy => h b y (List.mem_cons_of_mem _ hy))
theorem rd_append {x y : List Int} {j : Nat} (h : j < x.length) : rd (x ++ y) (j : Int) = rd x (j : Int) := by
  rw [rd_nat, rd_nat, List.getD_eq_getElem?_getD, List.getD_eq_getElem?_getD, List.getElem?_append_left h]
theorem labels_f {l : List Int} (hl : l.length ≤ 6) (hg : ∀ i : Nat, i < l.length → 0 ≤ rd l (i : Int) ∧ rd l (i : Int) ≤ 2 ^ i - 1) (m : Int) (hm : m ≤ 4) : ∀ (d : Nat) (x rest : List Int) (outs : List (List Int)) (k : Nat), x.length + d = l.length → rest.length = d → outs.length + 5 ^ d ≤ 1000000 → d + 11 < k →
    ∃ fs, impl_Poset_labels_1.f k l m (x.length : Int) outs (x ++ rest) = some (outs ++ allx l m d x, fs) ∧ fs.length = l.length ∧ fs.take x.length = x
  | 0, x, rest, outs, k, hx, hr, ho, hk => by
    obtain ⟨k, rfl⟩ : ∃ m, k = m + 1 := ⟨k - 1, by omega⟩
    obtain rfl := List.eq_nil_of_length_eq_zero hr
    refine ⟨x, ?_, by omega, by simp⟩
    rw [impl_Poset_labels_1.f, if_pos (by omega), List.append_nil, if_pos (by omega), if_pos (by omega)]
    rfl
  | d + 1, x, rest, outs, k, hx, hr, ho, hk => by
    obtain ⟨k, rfl⟩ : ∃ m, k = m + 1 := ⟨k - 1, by omega⟩
    have hgx := hg x.length (by omega)
    have hp := pow_le62 (i := x.length) (by omega)
    have hlen := bitsOf_length (rd l (x.length : Int))
    have h0 := least_nonneg l x
    have hL : impl_Poset_labels_1.least (x ++ rest) (ints (bitsOf (rd l (x.length : Int)))) 0 = some (least l x) := by
      rw [leastM_eq _ _ _ (fun e he => by have := bitsOf_lt hgx.1 hgx.2 e he; rw [List.length_append]; omega), bitsOf_range (by omega) hgx.1 hgx.2]
      congr 1
      refine foldl_congr_mem _ _ _ _ (fun b j hj => ?_)
      rw [rd_append (List.mem_range.1 (List.mem_filter.1 hj).1)]
    have main : ∀ (n j : Nat) (o : List (List Int)) (f : List Int), j + n = (m + 1 - least l x).toNat → o.length + n * 5 ^ d ≤ 1000000 → f.length = l.length → f.take x.length = x →
        ∃ fs, (List.range' j n).foldlM (fun (st : List (List Int) × List Int) (j : Nat) => impl_Poset_labels_1.f k l m (wrap64 ((x.length : Int) + 1)) st.1 (st.2.set (x.length : Int).toNat (least l x + (j : Int)))) (o, f) = some (o ++ (List.range' j n).flatMap (fun (j : Nat) => allx l m d (x ++ [least l x + (j : Int)])), fs) ∧ fs.length = l.length ∧ fs.take x.length = x := by
      intro n
      induction n with
      | zero => intro j o f _ _ hf hft; exact ⟨f, by simp, hf, hft⟩
      | succ n ih =>
        intro j o f hj hol hf hft
        have hset : f.set (x.length : Int).toNat (least l x + (j : Int)) = (x ++ [least l x + (j : Int)]) ++ f.drop (x.length + 1) := by
          rw [Int.toNat_natCast, List.set_eq_take_append_cons_drop, if_pos (by omega), hft, List.append_assoc]
          rfl
        rw [Nat.succ_mul] at hol
        obtain ⟨fs, h1, h2, h3⟩ := labels_f hl hg m hm d (x ++ [least l x + (j : Int)]) (f.drop (x.length + 1)) o k (by simp; omega) (by simp; omega) (by omega) (by omega)
        have hb := allx_length l m hm d (x ++ [least l x + (j : Int)])
        have h4 : fs.take x.length = x := by
          have := congrArg (List.take x.length) h3
          rwa [List.take_take, List.length_append, Nat.min_eq_left (by simp), List.take_left' rfl] at this
        obtain ⟨fs2, h5, h6, h7⟩ := ih (j + 1) (o ++ allx l m d (x ++ [least l x + (j : Int)])) fs (by omega) (by rw [List.length_append]; omega) h2 h4
        refine ⟨fs2, ?_, h6, h7⟩
        rw [List.range'_succ, List.foldlM_cons]
        show Option.bind (impl_Poset_labels_1.f k l m (wrap64 ((x.length : Int) + 1)) o (f.set (x.length : Int).toNat (least l x + (j : Int)))) _ = _
        rw [hset, w64 (by omega) (by omega), show (x.length : Int) + 1 = ((x ++ [least l x + (j : Int)]).length : Int) by simp, h1, Option.bind_some]
        show (List.range' (j + 1) n).foldlM _ (o ++ allx l m d (x ++ [least l x + (j : Int)]), fs) = _
        rw [show ((x ++ [least l x + (j : Int)]).length : Int) = wrap64 ((x.length : Int) + 1) by rw [w64 (by omega) (by omega)]; simp, h5, List.flatMap_cons, List.append_assoc]
    have hn5 : (m + 1 - least l x).toNat * 5 ^ d ≤ 5 * 5 ^ d := Nat.mul_le_mul_right _ (by omega)
    rw [Nat.pow_succ, Nat.mul_comm (5 ^ d) 5] at ho
    obtain ⟨fs, h1, h2, h3⟩ := main (m + 1 - least l x).toNat 0 outs (x ++ rest) (by omega) (by omega) (by simp; omega) (by simp)
    refine ⟨fs, ?_, h2, h3⟩
    rw [impl_Poset_labels_1.f, if_neg (by omega), if_pos ⟨by omega, by omega⟩, items_eq hgx.1 (by omega) k (by omega), Option.bind_some, if_pos (by rw [ints_length]; omega), hL, Option.bind_some, if_pos ⟨by omega, by omega, by simp; omega⟩, List.range_eq_range', h1]
    rw [allx, List.range_eq_range']
/-! ### Copies, comparisons, marks -/
theorem szInt_eq (l : List Int) (hl : l.length ≤ 9223372036854775807) : laws_szPoset.f l 1048576 = some (if l.length ≤ 1048576 then 1048576 - (l.length : Int) else -1) := by
  unfold laws_szPoset.f laws_szIntS.f
  rw [w64 (by omega) (by omega)]
  by_cases h : l.length ≤ 1048576
  · rw [if_neg (by omega), Option.bind_some, if_neg (by omega), if_pos h]
  · rw [if_pos (by omega), Option.bind_some, if_pos (by omega), if_neg h]
theorem toInt_loop (l : List Int) (hl : l.length ≤ 1048576) : ∀ (d i k : Nat) (x : List Int), i + d = l.length → x.length = l.length → x.take i = l.take i → d < k → laws_toIntS.l0 k l x (i : Int) = some l
  | 0, i, k, x, hi, hx, ht, hk => by
    obtain ⟨k, rfl⟩ : ∃ m, k = m + 1 := ⟨k - 1, by omega⟩
    rw [laws_toIntS.l0, if_neg (by omega)]
    rw [List.take_of_length_le (by omega), List.take_of_length_le (by omega)] at ht
    rw [ht]
  | d + 1, i, k, x, hi, hx, ht, hk => by
    obtain ⟨k, rfl⟩ : ∃ m, k = m + 1 := ⟨k - 1, by omega⟩
    rw [laws_toIntS.l0, if_pos (by omega), if_pos (by omega), if_pos (by omega), w64 (by omega) (by omega), show (i : Int) + 1 = ((i + 1 : Nat) : Int) by omega, Int.toNat_natCast]
    refine toInt_loop l hl d (i + 1) k _ (by omega) (by rw [List.length_set]; exact hx) ?_ (by omega)
    rw [List.take_set, List.take_succ_eq_append_getElem (by omega), List.set_append, if_neg (by simp; omega), ht, List.take_succ_eq_append_getElem (by omega), rd_nat, getD_of_lt l 0 (by omega)]
    simp only [List.length_take, Nat.min_eq_left (show i ≤ l.length by omega), Nat.sub_self, List.set_cons_zero]
theorem toPoset_eq (l : List Int) (hl : l.length ≤ 1048576) (k : Nat) (hk : l.length < k) : laws_toPoset.f k l = some l := by
  unfold laws_toPoset.f laws_toIntS.f
  rw [if_pos (by omega), if_pos (by omega), show (0 : Int) = ((0 : Nat) : Int) from rfl, toInt_loop l hl l.length 0 k _ (by omega) (by simp) (by simp) hk]
  rfl
theorem eqInt_loop (l : List Int) (hl : l.length ≤ 9000000000000000000) : ∀ (d i k : Nat), i + d = l.length → d < k → laws_eqIntS.l0 k l l (i : Int) = some true
  | 0, i, k, hi, hk => by
    obtain ⟨k, rfl⟩ : ∃ m, k = m + 1 := ⟨k - 1, by omega⟩
    rw [laws_eqIntS.l0, if_neg (by omega)]
  | d + 1, i, k, hi, hk => by
    obtain ⟨k, rfl⟩ : ∃ m, k = m + 1 := ⟨k - 1, by omega⟩
    rw [laws_eqIntS.l0, if_pos (by omega), if_pos (by omega), if_pos (by omega), if_pos rfl, w64 (by omega) (by omega), show (i : Int) + 1 = ((i + 1 : Nat) : Int) by omega]
    exact eqInt_loop l hl d (i + 1) k (by omega) (by omega)
theorem eqInt_eq (l : List Int) (hl : l.length ≤ 9000000000000000000) (k : Nat) (hk : l.length < k) : laws_eqIntS.f k l l = some true := by
  unfold laws_eqIntS.f
  rw [if_pos rfl, show (0 : Int) = ((0 : Nat) : Int) from rfl]
  exact eqInt_loop l hl l.length 0 k (by omega) hk
theorem eqRows_loop (R : List (List Int)) (B : Nat) (hB : B ≤ 9000000000000000000) (hR : R.length ≤ 9000000000000000000) (hr : ∀ r ∈ R, r.length ≤ B) : ∀ (d i k : Nat), i + d = R.length → B + d < k → laws_eqIntSS.l0 k R R (i : Int) = some true
  | 0, i, k, hi, hk => by
    obtain ⟨k, rfl⟩ : ∃ m, k = m + 1 := ⟨k - 1, by omega⟩
    rw [laws_eqIntSS.l0, if_neg (by omega)]
  | d + 1, i, k, hi, hk => by
    obtain ⟨k, rfl⟩ : ∃ m, k = m + 1 := ⟨k - 1, by omega⟩
    have hm : (rd_L1 R (i : Int)).length ≤ B := by
      unfold rd_L1
      rw [Int.toNat_natCast, getD_of_lt R [] (by omega)]
      exact hr _ (List.getElem_mem _)
    rw [laws_eqIntSS.l0, if_pos (by omega), if_pos (by omega), if_pos (by omega), eqInt_eq _ (by omega) k (by omega), Option.bind_some, if_pos rfl, w64 (by omega) (by omega), show (i : Int) + 1 = ((i + 1 : Nat) : Int) by omega]
    exact eqRows_loop R B hB hR hr d (i + 1) k (by omega) (by omega)
theorem eqRows_eq (R : List (List Int)) (B : Nat) (hB : B ≤ 9000000000000000000) (hR : R.length ≤ 9000000000000000000) (hr : ∀ r ∈ R, r.length ≤ B) (k : Nat) (hk : B + R.length < k) : laws_eqIntSS.f k R R = some true := by
  unfold laws_eqIntSS.f
  rw [if_pos rfl, show (0 : Int) = ((0 : Nat) : Int) from rfl]
  exact eqRows_loop R B hB hR hr R.length 0 k (by omega) hk
theorem eqPoset_eq (l : List Int) (hl : l.length ≤ 9000000000000000000) (k : Nat) (hk : l.length < k) : laws_eqPoset.f k l l = some true := by
  unfold laws_eqPoset.f
  rw [eqInt_eq l hl k hk]
  rfl
/-- The marks of a row. -/
def marks (n : Nat) (a : Int) : List Int := (List.range n).map fun (j : Nat) => a + (j : Int)
theorem marks_length (n : Nat) (a : Int) : (marks n a).length = n := by simp [marks]
theorem rd_marks {n : Nat} {a : Int} {i : Nat} (h : i < n) : rd (marks n a) (i : Int) = a + (i : Int) := by
  rw [rd_nat, getD_of_lt _ _ (by rw [marks_length]; exact h)]
  simp [marks]
theorem mark_loop (n : Nat) (a : Int) (h0 : 0 ≤ a) (h1 : a + (n : Int) ≤ 9000000000000000000) : ∀ (d i k : Nat) (x : List Int), i + d = n → x.length = n → x.take i = (marks n a).take i → d < k → laws_markIntS.l0 k x (a + (i : Int)) (i : Int) = some (a + (n : Int), marks n a)
  | 0, i, k, x, hi, hx, ht, hk => by
    obtain ⟨k, rfl⟩ : ∃ m, k = m + 1 := ⟨k - 1, by omega⟩
    rw [laws_markIntS.l0, if_neg (by omega)]
    rw [List.take_of_length_le (by omega), List.take_of_length_le (by rw [marks_length]; omega)] at ht
    rw [ht, show i = n by omega]
  | d + 1, i, k, x, hi, hx, ht, hk => by
    obtain ⟨k, rfl⟩ : ∃ m, k = m + 1 := ⟨k - 1, by omega⟩
    have hlen := marks_length n a
    rw [laws_markIntS.l0, if_pos (by omega), if_pos (by omega), w64 (by omega) (by omega), w64 (by omega) (by omega), show (i : Int) + 1 = ((i + 1 : Nat) : Int) by omega, show a + (i : Int) + 1 = a + ((i + 1 : Nat) : Int) by omega, Int.toNat_natCast]
    refine mark_loop n a h0 h1 d (i + 1) k _ (by omega) (by rw [List.length_set]; exact hx) ?_ (by omega)
    have hg : (marks n a)[i]'(by omega) = a + (i : Int) := by simp [marks]
    rw [List.take_set, List.take_succ_eq_append_getElem (by omega), List.set_append, if_neg (by simp; omega), ht, List.take_succ_eq_append_getElem (by omega), hg]
    simp only [List.length_take, Nat.min_eq_left (show i ≤ (marks n a).length by omega), Nat.sub_self, List.set_cons_zero]
theorem mark_eq (l : List Int) (a : Int) (h0 : 0 ≤ a) (h1 : a + (l.length : Int) ≤ 9000000000000000000) (k : Nat) (hk : l.length < k) : laws_markIntS.f k l a = some (a + (l.length : Int), marks l.length a) := by
  unfold laws_markIntS.f
  have := mark_loop l.length a h0 h1 l.length 0 k l (by omega) rfl (by simp) hk
  rw [show a + ((0 : Nat) : Int) = a by omega] at this
  exact this
theorem held_loop (n : Nat) (a : Int) (h0 : 0 ≤ a) (h1 : a + (n : Int) ≤ 9000000000000000000) : ∀ (d i k : Nat), i + d = n → d < k → laws_heldIntS.l0 k (marks n a) (a + (i : Int)) (i : Int) = some (a + (n : Int))
  | 0, i, k, hi, hk => by
    obtain ⟨k, rfl⟩ : ∃ m, k = m + 1 := ⟨k - 1, by omega⟩
    have hlen := marks_length n a
    rw [laws_heldIntS.l0, if_neg (by omega), show i = n by omega]
  | d + 1, i, k, hi, hk => by
    obtain ⟨k, rfl⟩ : ∃ m, k = m + 1 := ⟨k - 1, by omega⟩
    have hlen := marks_length n a
    rw [laws_heldIntS.l0, if_pos (by omega), if_pos (by omega), if_pos (rd_marks (by omega)), w64 (by omega) (by omega), w64 (by omega) (by omega), show (i : Int) + 1 = ((i + 1 : Nat) : Int) by omega, show a + (i : Int) + 1 = a + ((i + 1 : Nat) : Int) by omega]
    exact held_loop n a h0 h1 d (i + 1) k (by omega) (by omega)
theorem held_eq (n : Nat) (a : Int) (h0 : 0 ≤ a) (h1 : a + (n : Int) ≤ 9000000000000000000) (k : Nat) (hk : n < k) : laws_heldIntS.f k (marks n a) a = some (a + (n : Int)) := by
  unfold laws_heldIntS.f
  have := held_loop n a h0 h1 n 0 k (by omega) hk
  rw [show a + ((0 : Nat) : Int) = a by omega] at this
  exact this
/-- The marks of rows, and how many there are. -/
def markRows : List (List Int) → Int → List (List Int)
  | [], _ => []
  | x :: r, a => marks x.length a :: markRows r (a + (x.length : Int))
def total : List (List Int) → Nat
  | [] => 0
  | x :: r => x.length + total r
theorem total_le {B : Nat} : ∀ (R : List (List Int)), (∀ r ∈ R, r.length ≤ B) → total R ≤ R.length * B
  | [], _ => by simp [total]
  | x :: r, h => by
    have h1 := h x List.mem_cons_self
    have h2 := total_le r (fun y hy => h y (List.mem_cons_of_mem _ hy))
    rw [List.length_cons, Nat.succ_mul]
    unfold total
    omega
theorem markGo_eq (k B : Nat) (hk : B < k) : ∀ (R : List (List Int)) (a : Int), (∀ r ∈ R, r.length ≤ B) → 0 ≤ a → a + (total R : Int) ≤ 9000000000000000000 → laws_markIntSS.go k R a = some (a + (total R : Int), markRows R a)
  | [], a, _, _, _ => by simp [laws_markIntSS.go, total, markRows]
  | x :: r, a, h, h0, h1 => by
    have hx := h x List.mem_cons_self
    simp only [total] at h1
    have ih := markGo_eq k B hk r (a + (x.length : Int)) (fun y hy => h y (List.mem_cons_of_mem _ hy)) (by omega) (by omega)
    rw [laws_markIntSS.go, mark_eq x a h0 (by omega) k (by omega), Option.bind_some, ih, Option.bind_some]
    simp only [markRows, total]
    rw [show a + (x.length : Int) + (total r : Int) = a + ((x.length + total r : Nat) : Int) by omega]
theorem markRows_length : ∀ (R : List (List Int)) (a : Int), (markRows R a).length = R.length
  | [], _ => rfl
  | x :: r, a => by simp only [markRows, List.length_cons, markRows_length r]
theorem rd_markRows : ∀ (R : List (List Int)) (a : Int) (i : Nat) (h : i < R.length), rd_L1 (markRows R a) (i : Int) = marks (R[i]).length (a + (total (R.take i) : Int))
  | x :: r, a, 0, h => by simp [markRows, rd_L1, total]
  | x :: r, a, i + 1, h => by
    have ih := rd_markRows r (a + (x.length : Int)) i (by simpa using h)
    unfold rd_L1 at ih ⊢
    rw [Int.toNat_natCast] at ih ⊢
    simp only [markRows, List.getD_cons_succ, List.getElem_cons_succ, List.take_succ_cons, total]
    rw [ih, show a + (x.length : Int) + (total (r.take i) : Int) = a + ((x.length + total (r.take i) : Nat) : Int) by omega]
theorem total_take : ∀ (R : List (List Int)) (i : Nat) (h : i < R.length), total (R.take (i + 1)) = total (R.take i) + (R[i]).length
  | x :: r, 0, h => by simp [total]
  | x :: r, i + 1, h => by
    have := total_take r i (by simpa using h)
    simp only [List.take_succ_cons, total, List.getElem_cons_succ]
    rw [this, Nat.add_assoc]
theorem total_take_le (R : List (List Int)) : ∀ (d i : Nat), i + d = R.length → total (R.take i) ≤ total R
  | 0, i, h => by rw [List.take_of_length_le (by omega)]; exact Nat.le_refl _
  | d + 1, i, h => by
    have h1 := total_take_le R d (i + 1) (by omega)
    rw [total_take R i (by omega)] at h1
    omega
theorem heldRows_loop (R : List (List Int)) (a : Int) (B : Nat) (hr : ∀ r ∈ R, r.length ≤ B) (hR : R.length ≤ 9000000000000000000) (h0 : 0 ≤ a) (h1 : a + (total R : Int) ≤ 9000000000000000000) :
    ∀ (d i k : Nat), i + d = R.length → B + d < k → laws_heldIntSS.l0 k (markRows R a) (a + (total (R.take i) : Int)) (i : Int) = some (a + (total R : Int))
  | 0, i, k, hi, hk => by
    obtain ⟨k, rfl⟩ : ∃ m, k = m + 1 := ⟨k - 1, by omega⟩
    rw [laws_heldIntSS.l0, if_neg (by rw [markRows_length]; omega), List.take_of_length_le (by omega)]
  | d + 1, i, k, hi, hk => by
    obtain ⟨k, rfl⟩ : ∃ m, k = m + 1 := ⟨k - 1, by omega⟩
    have hB := hr _ (List.getElem_mem (l := R) (n := i) (by omega))
    have ht := total_take R i (by omega)
    have htl := total_take_le R d (i + 1) (by omega)
    rw [ht] at htl
    rw [laws_heldIntSS.l0, if_pos (by rw [markRows_length]; omega), if_pos (by omega), rd_markRows R a i (by omega), held_eq _ _ (by omega) (by omega) k (by omega), Option.bind_some, if_neg (by omega), w64 (by omega) (by omega), show (i : Int) + 1 = ((i + 1 : Nat) : Int) by omega,
      show a + (total (R.take i) : Int) + ((R[i]'(by omega)).length : Int) = a + (total (R.take (i + 1)) : Int) by rw [ht]; omega]
    exact heldRows_loop R a B hr hR h0 h1 d (i + 1) k (by omega) (by omega)
theorem heldRows_eq (R : List (List Int)) (a : Int) (B : Nat) (hr : ∀ r ∈ R, r.length ≤ B) (hR : R.length ≤ 9000000000000000000) (h0 : 0 ≤ a) (h1 : a + (total R : Int) ≤ 9000000000000000000) (k : Nat) (hk : B + R.length < k) : laws_heldIntSS.f k (markRows R a) a = some (a + (total R : Int)) := by
  unfold laws_heldIntSS.f
  have := heldRows_loop R a B hr hR h0 h1 R.length 0 k (by omega) hk
  rw [List.take_zero, show a + (total [] : Int) = a by simp [total]] at this
  exact this
/-! ### The law -/
theorem allx_rows (l : List Int) (m : Int) : ∀ (d : Nat) (x : List Int), ∀ r ∈ allx l m d x, r.length = x.length + d
  | 0, x, r, h => by simp only [allx, List.mem_singleton] at h; subst h; rfl
  | d + 1, x, r, h => by
    simp only [allx, List.mem_flatMap] at h
    obtain ⟨j, _, h⟩ := h
    have := allx_rows l m d _ r h
    rw [List.length_append, List.length_singleton] at this
    omega
theorem spec_eq (l : List Int) (m : Int) (k : Nat) (hk : 1000 ≤ k) : spec_AllArrays.f k l m = some (if goodB l = true ∧ l.length ≤ 6 ∧ 0 ≤ m ∧ m ≤ 4 then (allx l m l.length [], true) else ([], false)) := by
  unfold spec_AllArrays.f
  rw [poGood_eq l k (by omega), Option.bind_some]
  by_cases hg : goodB l = true
  · rw [if_pos hg]
    by_cases h6 : l.length ≤ 6
    · rw [if_neg (by omega), l1In_eq, Option.bind_some]
      by_cases hm : 0 ≤ m ∧ m ≤ 4
      · rw [if_pos (by simpa using hm), pc_f h6 (fun i hi => (goodB_row hg hi).1) m hm.2 l.length [] k (by simp) (by omega), Option.bind_some, if_pos ⟨hg, h6, hm⟩]
      · rw [if_neg (by simpa using hm), if_neg (fun h => hm h.2.2)]
    · rw [if_pos (by omega), if_neg (fun h => h6 h.2.1)]
  · rw [if_neg hg, if_neg (fun h => hg h.1)]
theorem impl_eq (l : List Int) (m : Int) (k : Nat) (hk : 1000 ≤ k) : impl_AllArrays.f k l m = some (if goodB l = true ∧ l.length ≤ 6 ∧ 0 ≤ m ∧ m ≤ 4 then (allx l m l.length [], true) else ([], false)) := by
  unfold impl_AllArrays.f
  rw [IsPoset_eq l k (by omega), Option.bind_some]
  by_cases hg : goodB l = true
  · rw [if_pos hg, within_eq, Option.bind_some]
    by_cases hm : 0 ≤ m ∧ m ≤ 4
    · rw [if_pos (by simpa using hm), n_eq, Option.bind_some]
      by_cases h6 : l.length ≤ 6
      · obtain ⟨fs, h1, _, _⟩ := labels_f h6 (fun i hi => goodB_row hg hi) m hm.2 l.length [] (List.replicate l.length 0) [] k (by simp) (by simp) (by have := pow5 h6; simp; omega) (by omega)
        rw [if_neg (by omega)]
        unfold impl_Poset_labels.f
        rw [if_pos (by omega)]
        replace h1 : impl_Poset_labels_1.f k l m 0 [] (List.replicate l.length 0) = _ := h1
        rw [h1, Option.bind_some, Option.bind_some, if_pos ⟨hg, h6, hm⟩, List.nil_append]
      · rw [if_pos (by omega), if_neg (fun h => h6 h.2.1)]
    · rw [if_neg (by simpa using hm), if_neg (fun h => hm h.2.2)]
  · rw [if_neg hg, if_neg (fun h => hg h.1)]
theorem FnExactAllArrays : laws_FnExactAllArrays.Pure := by
  intro l m hl _ _
  have hl : l.length ≤ 9223372036854775807 := hl
  by_cases h : l.length ≤ 1048576
  · right
    obtain ⟨R, b, hR, hspec, himpl⟩ : ∃ R b, (R.length ≤ 15625 ∧ ∀ r ∈ R, r.length ≤ 6) ∧ (∀ k, 1000 ≤ k → spec_AllArrays.f k l m = some (R, b)) ∧ (∀ k, 1000 ≤ k → impl_AllArrays.f k l m = some (R, b)) := by
      by_cases hc : goodB l = true ∧ l.length ≤ 6 ∧ 0 ≤ m ∧ m ≤ 4
      · refine ⟨allx l m l.length [], true, ⟨?_, ?_⟩, fun k hk => by rw [spec_eq l m k hk, if_pos hc], fun k hk => by rw [impl_eq l m k hk, if_pos hc]⟩
        · have h1 := allx_length l m hc.2.2.2 l.length []
          have h2 := pow5 hc.2.1
          omega
        · intro r hr
          have := allx_rows l m l.length [] r hr
          simp at this
          omega
      · exact ⟨[], false, ⟨by simp, by simp⟩, fun k hk => by rw [spec_eq l m k hk, if_neg hc], fun k hk => by rw [impl_eq l m k hk, if_neg hc]⟩
    have ht := total_le R hR.2
    have h15 := hR.1
    have htt : total R ≤ 15625 * 6 := Nat.le_trans ht (Nat.mul_le_mul_right _ h15)
    refine ⟨2000000, _, 1 + (l.length : Int), 1 + (total R : Int), R, markRows R 1, marks l.length 1, b, szInt_eq l hl, by rw [if_pos h]; omega, toPoset_eq l h _ (by omega), hspec _ (by omega), himpl _ (by omega), eqRows_eq R 6 (by omega) (by omega) hR.2 _ (by omega), eqPoset_eq l (by omega) _ (by omega), ?_, by omega, ?_, ?_, by omega⟩
    · unfold laws_markPoset.f
      rw [mark_eq l 1 (by omega) (by omega) _ (by omega)]
      rfl
    · unfold laws_markIntSS.f
      rw [if_pos (by omega)]
      exact markGo_eq _ 6 (by omega) R 1 hR.2 (by omega) (by omega)
    · exact heldRows_eq R 1 6 hR.2 (by omega) (by omega) (by omega) _ (by omega)
  · left
    exact ⟨_, szInt_eq l hl, by rw [if_neg h]; omega⟩
end Go.Proofs.Ytcajljndcddldaa.Pure
