/- The plain law of promotion's fixed words: the lists of all linear extensions, the words that a promotion brings back. -/
import Derived.Test.YtcajljndcddldaaPPgx20
import Derived.Laws.BitsLemmas
import Derived.Laws.Bits64b
namespace Go.Proofs.Ytcajljndcddldaa.Pure
set_option linter.unusedVariables false
open Go.RowKit Go.Proofs.Ytcajljndcddldaa.PPg Go.Proofs.YtcajljndcddldaaW.PrintWords Go.Proofs.YtcajljndcddldaaW.PrintLast
/-! ### Whole numbers as Go has them, and bits -/
theorem w64 {x : Int} (h0 : -9223372036854775808 ≤ x) (h1 : x < 9223372036854775808) : wrap64 x = x := by unfold wrap64; omega
/-- Bit j of a number. -/
def bit (m : Int) (j : Nat) : Bool := decide ((m / 2 ^ j) % 2 = 1)
theorem shr_small_ (m : Int) (j : Nat) (hj : j ≤ 64) : shr .i64 m (j : Int) = m / 2 ^ j := by
  unfold shr
  rw [Int.toNat_natCast, Nat.min_eq_left (by simpa [IntKind.bits] using hj)]
theorem shl_one (j : Nat) (hj : j ≤ 62) : shl .i64 1 (j : Int) = 2 ^ j := by
  unfold shl
  rw [Int.toNat_natCast, Nat.min_eq_left (by simp [IntKind.bits]; omega), Int.one_mul, i64_w]
  have h1 : (2 : Nat) ^ j ≤ 2 ^ 62 := Nat.pow_le_pow_right (by decide) hj
  have h2 : ((2 : Int) ^ j) = ((2 ^ j : Nat) : Int) := by simp
  have h3 : 0 < (2 : Nat) ^ j := Nat.pow_pos (by decide)
  rw [h2]
  exact w64 (by omega) (by omega)
theorem div_pow_bounds {m : Int} (h0 : 0 ≤ m) (h1 : m < 9223372036854775808) (j : Nat) : 0 ≤ m / 2 ^ j ∧ m / 2 ^ j < 9223372036854775808 := by
  have hp : (0 : Int) < 2 ^ j := Int.pow_pos (by decide)
  refine ⟨Int.ediv_nonneg h0 (Int.le_of_lt hp), Int.lt_of_le_of_lt (Int.ediv_le_self _ h0) h1⟩
theorem tmod_bit {m : Int} (h0 : 0 ≤ m) (j : Nat) (hj : j ≤ 64) : (Int.tmod (shr .i64 m (j : Int)) 2 = 1) ↔ bit m j = true := by
  rw [shr_small_ m j hj]
  have hp : (0 : Int) < 2 ^ j := Int.pow_pos (by decide)
  rw [Int.tmod_eq_emod_of_nonneg (Int.ediv_nonneg h0 (Int.le_of_lt hp))]
  simp [bit]
theorem p63 : (2 : Int) ^ 63 = 9223372036854775808 := by decide +kernel
theorem and_one {x : Int} (h0 : 0 ≤ x) (h1 : x < 9223372036854775808) : Go.bits .and .i64 x 1 = x % 2 := by
  exact bits_mask .i64 63 (by decide) (fun n h0 h1 => by rw [i64_w]; rw [p63] at h1; exact w64 (by omega) h1) 1 (by decide) x h0 (by rw [p63]; exact h1)
theorem has_bit {m : Int} (h0 : 0 ≤ m) (h1 : m < 9223372036854775808) (j : Nat) (hj : j ≤ 64) : (Go.bits .and .i64 (shr .i64 m (j : Int)) 1 == 1) = bit m j := by
  rw [shr_small_ m j hj]
  obtain ⟨h2, h3⟩ := div_pow_bounds h0 h1 j
  rw [and_one h2 h3]
  simp only [bit, Bool.beq_eq_decide_eq]
theorem bit_small {m : Int} {i j : Nat} (h0 : 0 ≤ m) (h1 : m < 2 ^ i) (hij : i ≤ j) : bit m j = false := by
  have h2 : m < 2 ^ j := Int.lt_of_lt_of_le h1 (by exact_mod_cast Nat.pow_le_pow_right (by decide) hij)
  simp only [bit, Int.ediv_eq_zero_of_lt h0 h2]
  decide
theorem pow_le62 {i : Nat} (hi : i ≤ 62) : (2 : Int) ^ i ≤ 4611686018427387904 := by
  have : (2 : Nat) ^ i ≤ 2 ^ 62 := Nat.pow_le_pow_right (by decide) hi
  have h2 : ((2 : Int) ^ i) = ((2 ^ i : Nat) : Int) := by simp
  rw [h2]
  omega
theorem rd_nat (l : List Int) (i : Nat) : rd l (i : Int) = l.getD i 0 := by unfold rd; rw [Int.toNat_natCast]
/-- A list of natural numbers as whole numbers. -/
def ints (l : List Nat) : List Int := l.map Int.ofNat
theorem ints_length (l : List Nat) : (ints l).length = l.length := by simp [ints]
theorem rd_ints {l : List Nat} {i : Nat} (h : i < l.length) : rd (ints l) (i : Int) = (l[i] : Int) := by
  rw [rd_nat, List.getD_eq_getElem?_getD, List.getElem?_eq_getElem (by rw [ints_length]; exact h)]
  simp [ints]
/-- The bits of a number below 10. -/
def bitsOf (m : Int) : List Nat := (List.range 10).filter (bit m)
theorem getD_of_lt {α : Type} (l : List α) (d : α) {i : Nat} (h : i < l.length) : l.getD i d = l[i] := by rw [List.getD_eq_getElem?_getD, List.getElem?_eq_getElem h]; rfl
/-! ### All linear extensions, plainly -/
theorem or_i64_nat (a b : Nat) (ha : a < 9223372036854775808) (hb : b < 9223372036854775808) : Go.bits .or .i64 (a : Int) (b : Int) = ((a ||| b : Nat) : Int) := by
  have hx : a ||| b < 2 ^ 63 := Nat.or_lt_two_pow (by omega) (by omega)
  have h1 : (BitVec.ofInt 64 (a : Int)).toNat = a := by
    rw [BitVec.ofInt_natCast, BitVec.toNat_ofNat]; exact Nat.mod_eq_of_lt (by omega)
  have h2 : (BitVec.ofInt 64 (b : Int)).toNat = b := by
    rw [BitVec.ofInt_natCast, BitVec.toNat_ofNat]; exact Nat.mod_eq_of_lt (by omega)
  show IntKind.i64.wrap ((BitVec.ofInt 64 (a : Int) ||| BitVec.ofInt 64 (b : Int)).toNat : Int) = _
  rw [BitVec.toNat_or, h1, h2, i64_w]
  exact w64 (by omega) (by omega)
def pc : Nat → Nat → Nat
  | 0, _ => 0
  | n + 1, s => pc n s + (s.testBit n).toNat
theorem pc_far {n s i : Nat} (h : n ≤ i) : pc n (s ||| 2 ^ i) = pc n s := by
  induction n with
  | zero => rfl
  | succ n ih =>
    simp only [pc, Nat.testBit_or, Nat.testBit_two_pow]
    rw [ih (by omega), decide_eq_false (by omega), Bool.or_false]
theorem pc_or {n s i : Nat} (h : i < n) (hb : s.testBit i = false) : pc n (s ||| 2 ^ i) = pc n s + 1 := by
  induction n with
  | zero => omega
  | succ n ih =>
    simp only [pc, Nat.testBit_or, Nat.testBit_two_pow]
    rcases Nat.lt_or_ge i n with hi | hi
    · rw [ih hi, decide_eq_false (by omega), Bool.or_false]
      omega
    · obtain rfl : i = n := by omega
      rw [pc_far (Nat.le_refl _), hb, decide_eq_true rfl]
      rfl
theorem pc_le (n s : Nat) : pc n s ≤ n := by
  induction n with
  | zero => exact Nat.le_refl _
  | succ n ih => simp only [pc]; cases s.testBit n <;> simp <;> omega
theorem pc_all {n s : Nat} (h : pc n s = n) : ∀ j, j < n → s.testBit j = true := by
  induction n with
  | zero => intro j hj; omega
  | succ n ih =>
    have := pc_le n s
    simp only [pc] at h
    cases hb : s.testBit n with
    | false => rw [hb] at h; simp at h; omega
    | true =>
      rw [hb] at h
      intro j hj
      rcases Nat.lt_or_ge j n with h1 | h1
      · exact ih (by simpa using h) j h1
      · obtain rfl : j = n := by omega
        exact hb
theorem pc_lt {n s : Nat} (hs : s < 2 ^ n) (hne : s ≠ 2 ^ n - 1) : pc n s < n := by
  have := pc_le n s
  rcases Nat.lt_or_ge (pc n s) n with h | h
  · exact h
  · refine absurd (Nat.eq_of_testBit_eq (fun j => ?_)) hne
    rw [Nat.testBit_two_pow_sub_one]
    rcases Nat.lt_or_ge j n with h1 | h1
    · rw [pc_all (by omega) j h1, decide_eq_true h1]
    · rw [decide_eq_false (by omega), Nat.testBit_lt_two_pow (Nat.lt_of_lt_of_le hs (Nat.pow_le_pow_right (by decide) h1))]
theorem pc_full (n : Nat) : pc n (2 ^ n - 1) = n := by
  have h : ∀ m, m ≤ n → pc m (2 ^ n - 1) = m := by
    intro m
    induction m with
    | zero => intro _; rfl
    | succ m ih => intro hm; simp only [pc]; rw [ih (by omega), Nat.testBit_two_pow_sub_one, decide_eq_true (by omega)]; rfl
  exact h n (Nat.le_refl n)
theorem pc_zero (n : Nat) : pc n 0 = 0 := by
  induction n with
  | zero => rfl
  | succ n ih => simp [pc, ih]
theorem or_gt {s i : Nat} (hb : s.testBit i = false) : s < s ||| 2 ^ i := by
  have h1 : s ≤ s ||| 2 ^ i := Nat.left_le_or
  rcases Nat.lt_or_ge s (s ||| 2 ^ i) with h | h
  · exact h
  · have : (s ||| 2 ^ i).testBit i = s.testBit i := by rw [show s ||| 2 ^ i = s by omega]
    rw [Nat.testBit_or, Nat.testBit_two_pow, hb] at this
    simp at this
theorem or_lt {n s i : Nat} (hs : s < 2 ^ n) (hi : i < n) : s ||| 2 ^ i < 2 ^ n := Nat.or_lt_two_pow hs (Nat.pow_lt_pow_right (by decide) hi)
theorem bit_nat (s i : Nat) : bit (s : Int) i = s.testBit i := by
  unfold bit
  rw [Nat.testBit_eq_decide_div_mod_eq]
  have : ((s : Int) / 2 ^ i) % 2 = ((s / 2 ^ i % 2 : Nat) : Int) := by simp
  rw [this]
  exact decide_eq_decide.2 (by omega)
theorem poIn_nat (s i : Nat) (hi : i ≤ 64) : spec_poIn.f (s : Int) (i : Int) = some (s.testBit i) := by
  unfold spec_poIn.f
  rw [if_pos (by omega), ← bit_nat]
  congr 1
  rw [Bool.eq_iff_iff, beq_iff_eq]
  exact tmod_bit (by omega) i hi
theorem or_bit {s i : Nat} (hs : s < 1024) (hi : i < 10) : Go.bits .or .i64 (s : Int) (shl .i64 1 (i : Int)) = ((s ||| 2 ^ i : Nat) : Int) := by
  have hp : 2 ^ i < 2 ^ 10 := Nat.pow_lt_pow_right (by decide) hi
  rw [shl_one i (by omega), show (2 : Int) ^ i = ((2 ^ i : Nat) : Int) by simp, or_i64_nat s (2 ^ i) (by omega) (by omega)]
/-- May the element i come next, when s is there? -/
def cand (T : List Int) (s i : Nat) : Bool := !s.testBit i && (Go.bits .andNot .i64 (rd T (i : Int)) (s : Int) == 0)
/-- What may follow, m elements, when s is there: all words, in the order of the alphabet. -/
def ext (T : List Int) : Nat → Nat → List (List Int)
  | 0, _ => [[]]
  | m + 1, s => (List.range T.length).flatMap fun i => if cand T s i = true then (ext T m (s ||| 2 ^ i)).map ((i : Int) :: ·) else []
def part (T : List Int) (m s i : Nat) : List (List Int) := if cand T s i = true then (ext T m (s ||| 2 ^ i)).map ((i : Int) :: ·) else []
theorem ext_succ (T : List Int) (m s : Nat) : ext T (m + 1) s = (List.range T.length).flatMap (part T m s) := rfl
theorem flat_le {α β : Type} (f : α → List β) (b : Nat) : ∀ (l : List α), (∀ a ∈ l, (f a).length ≤ b) → (l.flatMap f).length ≤ l.length * b
  | [], _ => by simp
  | x :: l, h => by
    rw [List.flatMap_cons, List.length_append, List.length_cons, Nat.succ_mul]
    have h1 := h x (List.mem_cons_self ..)
    have h2 := flat_le f b l (fun a ha => h a (List.mem_cons_of_mem _ ha))
    omega
theorem ext_le {T : List Int} (hT : T.length ≤ 10) : ∀ (m s : Nat), (ext T m s).length ≤ 10 ^ m
  | 0, _ => by simp [ext]
  | m + 1, s => by
    rw [ext_succ]
    refine Nat.le_trans (flat_le _ (10 ^ m) _ (fun i _ => ?_)) ?_
    · unfold part
      split
      · rw [List.length_map]; exact ext_le hT m _
      · simp
    · rw [List.length_range, Nat.pow_succ, Nat.mul_comm]
      exact Nat.mul_le_mul_left _ hT
theorem part_le {T : List Int} (hT : T.length ≤ 10) (m s i : Nat) : (part T m s i).length ≤ 10 ^ m := by
  unfold part
  split
  · rw [List.length_map]; exact ext_le hT m _
  · simp
/-- How many words follow s. -/
def cnt (T : List Int) (s : Nat) : Int := ((ext T (T.length - pc T.length s) s).length : Int)
def upto (T : List Int) (m s i : Nat) : Int := (((List.range i).flatMap (part T m s)).length : Int)
theorem upto_succ (T : List Int) (m s i : Nat) : upto T m s (i + 1) = upto T m s i + ((part T m s i).length : Int) := by
  unfold upto
  rw [List.range_succ, List.flatMap_append, List.length_append]
  simp
theorem upto_le {T : List Int} (hT : T.length ≤ 10) {m : Nat} (s : Nat) {i : Nat} (hi : i ≤ 10) (hm : m ≤ 10) : upto T m s i ≤ 100000000000 := by
  unfold upto
  have h1 := flat_le (part T m s) (10 ^ m) (List.range i) (fun a _ => part_le hT m s a)
  have h2 : 10 ^ m ≤ 10 ^ 10 := Nat.pow_le_pow_right (by decide) hm
  rw [List.length_range] at h1
  have h3 : i * 10 ^ m ≤ 10 * 10 ^ 10 := Nat.mul_le_mul hi h2
  omega
theorem rd_set_same {x : List Int} {s : Nat} (h : s < x.length) (v : Int) : rd (x.set s v) (s : Int) = v := by
  rw [rd_nat, List.getD_eq_getElem?_getD, List.getElem?_set_self h]
  rfl
theorem rd_set_far {x : List Int} {s j : Nat} (h : s ≠ j) (v : Int) : rd (x.set s v) (j : Int) = rd x (j : Int) := by
  rw [rd_nat, rd_nat, List.getD_eq_getElem?_getD, List.getElem?_set_ne h, List.getD_eq_getElem?_getD]
theorem cnt_l1 {T : List Int} (hT : T.length ≤ 10) {s : Nat} (hs : s < 2 ^ T.length) (hne : s ≠ 2 ^ T.length - 1) {x : List Int} (hx : x.length = 2 ^ T.length) (hc : ∀ j, s < j → j < 2 ^ T.length → rd x (j : Int) = cnt T j) :
    ∀ (d i k : Nat), i + d = T.length → spec_liCounts.l1 (k + d + 1) (x.set s (upto T (T.length - pc T.length s - 1) s i)) (s : Int) T (T.length : Int) (i : Int) T = spec_liCounts.l0 k (x.set s (cnt T s)) ((s : Int) - 1) T
  | 0, i, k, hi => by
    have hp := pc_lt hs hne
    have h2 : 2 ^ T.length ≤ 2 ^ 10 := Nat.pow_le_pow_right (by decide) hT
    rw [spec_liCounts.l1, if_neg (by omega), w64 (by omega) (by omega)]
    obtain rfl : i = T.length := by omega
    unfold cnt
    rw [show T.length - pc T.length s = (T.length - pc T.length s - 1) + 1 by omega, ext_succ]
    rfl
  | d + 1, i, k, hi => by
    have hp := pc_lt hs hne
    have h2 : 2 ^ T.length ≤ 2 ^ 10 := Nat.pow_le_pow_right (by decide) hT
    have ih := cnt_l1 hT hs hne hx hc d (i + 1) k (by omega)
    have e : (i : Int) + 1 = ((i + 1 : Nat) : Int) := by omega
    rw [show k + (d + 1) + 1 = (k + d + 1) + 1 by omega, spec_liCounts.l1, if_pos (by omega), if_pos (by omega), if_pos (by omega), poIn_nat s i (by omega), Option.bind_some, w64 (x := (i : Int) + 1) (by omega) (by omega), e]
    rw [upto_succ] at ih
    cases hb : s.testBit i with
    | true =>
      rw [if_pos rfl]
      have hz : part T (T.length - pc T.length s - 1) s i = [] := by unfold part cand; rw [hb]; rfl
      rw [hz] at ih
      simpa using ih
    | false =>
      rw [if_neg (by decide)]
      by_cases hz : Go.bits .andNot .i64 (rd T (i : Int)) (s : Int) = 0
      · have hq := or_gt hb
        have hl := or_lt hs (show i < T.length by omega)
        have hpp : part T (T.length - pc T.length s - 1) s i = (ext T (T.length - pc T.length s - 1) (s ||| 2 ^ i)).map ((i : Int) :: ·) := by unfold part cand; rw [hb, hz]; rfl
        have hcc : ((part T (T.length - pc T.length s - 1) s i).length : Int) = cnt T (s ||| 2 ^ i) := by
          rw [hpp, List.length_map]
          unfold cnt
          rw [pc_or (show i < T.length by omega) hb, Nat.sub_sub]
        rw [if_pos hz, if_pos (by omega), if_pos (by rw [List.length_set, hx]; omega), or_bit (by omega) (by omega), if_pos (by omega), if_pos (by rw [List.length_set, hx]; omega)]
        have hu := upto_le hT (m := T.length - pc T.length s - 1) s (i := i) (by omega) (by omega)
        have hu2 := upto_le hT (m := T.length - pc T.length s - 1) s (i := i + 1) (by omega) (by omega)
        have hu0 : 0 ≤ upto T (T.length - pc T.length s - 1) s i := Int.natCast_nonneg _
        rw [rd_set_same (by omega), rd_set_far (by omega), hc _ hq hl, Int.toNat_natCast, List.set_set, ← hcc]
        rw [upto_succ] at hu2
        rw [w64 (by omega) (by omega)]
        exact ih
      · rw [if_neg hz]
        have hpp : part T (T.length - pc T.length s - 1) s i = [] := by
          unfold part cand
          rw [hb, beq_eq_false_iff_ne.2 hz]
          rfl
        rw [hpp] at ih
        simpa using ih
def cnts (T : List Int) : List Int := (List.range (2 ^ T.length)).map (cnt T)
theorem cnts_length (T : List Int) : (cnts T).length = 2 ^ T.length := by simp [cnts]
theorem rd_cnts {T : List Int} {j : Nat} (h : j < 2 ^ T.length) : rd (cnts T) (j : Int) = cnt T j := by
  rw [rd_nat, List.getD_eq_getElem?_getD]
  simp [cnts, h]
theorem rd_tail {T : List Int} {s j : Nat} (hs : s ≤ j) (h : j < 2 ^ T.length) : rd (List.replicate s 0 ++ (cnts T).drop s) (j : Int) = cnt T j := by
  rw [rd_nat, List.getD_eq_getElem?_getD, List.getElem?_append_right (by rw [List.length_replicate]; exact hs), List.length_replicate, List.getElem?_drop, show s + (j - s) = j by omega]
  simp [cnts, h]
theorem tail_set {T : List Int} {s : Nat} (h : s < 2 ^ T.length) (v : Int) : (List.replicate (s + 1) 0 ++ (cnts T).drop (s + 1)).set s v = List.replicate s 0 ++ v :: (cnts T).drop (s + 1) := by
  rw [List.replicate_succ', List.append_assoc, List.set_append_right _ _ (by simp)]
  simp
theorem tail_cnt {T : List Int} {s : Nat} (h : s < 2 ^ T.length) : (cnts T).drop s = cnt T s :: (cnts T).drop (s + 1) := by
  rw [List.drop_eq_getElem_cons (by rw [cnts_length]; exact h)]
  simp [cnts]
theorem cnt_l0 {T : List Int} (hT : T.length ≤ 10) : ∀ (s k : Nat), s < 2 ^ T.length → (T.length + 2) * s < k → spec_liCounts.l0 k (List.replicate s 0 ++ (cnts T).drop s) ((s : Int) - 1) T = some (cnts T)
  | 0, k, hs, hk => by
    obtain ⟨k, rfl⟩ : ∃ m, k = m + 1 := ⟨k - 1, by omega⟩
    rw [spec_liCounts.l0, if_neg (by omega)]
    simp
  | s + 1, k, hs, hk => by
    rw [Nat.mul_add, Nat.mul_one] at hk
    obtain ⟨k, rfl⟩ : ∃ m, k = (m + T.length + 1) + 1 := ⟨k - T.length - 2, by omega⟩
    rw [spec_liCounts.l0, if_pos (by omega), show ((s + 1 : Nat) : Int) - 1 = (s : Int) by omega]
    have hz : upto T (T.length - pc T.length s - 1) s 0 = 0 := rfl
    have h0 : (List.replicate (s + 1) 0 ++ (cnts T).drop (s + 1)).set s 0 = List.replicate (s + 1) 0 ++ (cnts T).drop (s + 1) := by
      rw [tail_set (by omega), List.replicate_succ', List.append_assoc]
      rfl
    have h1 := cnt_l1 hT (s := s) (by omega) (by omega) (x := List.replicate (s + 1) 0 ++ (cnts T).drop (s + 1)) (by rw [List.length_append, List.length_replicate, List.length_drop, cnts_length]; omega) (fun j hj hl => rd_tail hj hl) T.length 0 k (by omega)
    rw [hz, h0, tail_set (by omega), ← tail_cnt (by omega)] at h1
    exact h1.trans (cnt_l0 hT s k (by omega) (by omega))
theorem liCounts_eq {T : List Int} (hT : T.length ≤ 10) (k : Nat) (hk : 12500 ≤ k) : spec_liCounts.f k T = some (cnts T) := by
  have h2 : 2 ^ T.length ≤ 2 ^ 10 := Nat.pow_le_pow_right (by decide) hT
  have h3 : 0 < 2 ^ T.length := Nat.pow_pos (by decide)
  have e2 : (2 : Int) ^ T.length = ((2 ^ T.length : Nat) : Int) := by simp
  unfold spec_liCounts.f
  rw [shl_one _ (by omega), e2]
  generalize hN : 2 ^ T.length = N at h2 h3
  rw [if_pos (by omega), Int.toNat_natCast, if_pos (by omega), Option.bind_some, w64 (by omega) (by omega), if_pos (by omega), List.length_replicate, if_pos (by omega), w64 (by omega) (by omega), show ((N : Int) - 1).toNat = N - 1 by omega, show (N : Int) - 2 = ((N - 1 : Nat) : Int) - 1 by omega]
  have h4 := cnt_l0 hT (N - 1) k (by omega) (by
    have : (T.length + 2) * (N - 1) ≤ 12 * 1023 := Nat.mul_le_mul (by omega) (by omega)
    omega)
  rw [tail_cnt (s := N - 1) (by omega), List.drop_of_length_le (by rw [cnts_length]; omega)] at h4
  have h5 : cnt T (N - 1) = 1 := by
    unfold cnt
    rw [← hN, pc_full, Nat.sub_self]
    rfl
  rw [h5] at h4
  rw [← h4]
  congr 1
  obtain ⟨M, rfl⟩ : ∃ M, N = M + 1 := ⟨N - 1, by omega⟩
  rw [Nat.add_sub_cancel, List.replicate_succ', List.set_append_right _ _ (by simp)]
  simp

/-! ### The r-th word -/
theorem with_eq {T : List Int} (hT : T.length ≤ 10) : ∀ (m : Nat) (w : List Int) (s r k : Nat) (e : List Int), w.length + m = T.length → pc T.length s = w.length → s < 2 ^ T.length → (ext T m s)[r]? = some e → 24 * m + 2 ≤ k →
    spec_liWith.l0 k (cnts T) (r : Int) w (s : Int) T = some (w ++ e)
  | 0, w, s, r, k, e, hm, hp, hs, he, hk => by
    obtain ⟨k, rfl⟩ : ∃ m, k = m + 1 := ⟨k - 1, by omega⟩
    rw [spec_liWith.l0, if_neg (by omega)]
    have hr : r = 0 := by
      have := (List.getElem?_eq_some_iff.1 he).1
      simp [ext] at this
      exact this
    subst hr
    simp [ext] at he
    subst he
    rw [List.append_nil]
  | m + 1, w, s, r, k, e, hm, hp, hs, he, hk => by
    obtain ⟨k, rfl⟩ : ∃ m, k = m + 1 := ⟨k - 1, by omega⟩
    have h2 : 2 ^ T.length ≤ 2 ^ 10 := Nat.pow_le_pow_right (by decide) hT
    have ih := with_eq hT m
    have go : ∀ (d i r k : Nat), i + d = T.length → ((List.range' i d).flatMap (part T m s))[r]? = some e → 24 * m + 3 + 2 * d ≤ k →
        spec_liWith.l1 k (cnts T) (r : Int) w (s : Int) T (T.length : Int) (i : Int) T = some (w ++ e) := by
      intro d
      induction d with
      | zero => intro i r k _ h _; simp at h
      | succ d ihd =>
        intro i r k hi h hk
        obtain ⟨k, rfl⟩ : ∃ m, k = (m + 1) + 1 := ⟨k - 2, by omega⟩
        have hrb := (List.getElem?_eq_some_iff.1 h).1
        have hfl := flat_le (part T m s) (10 ^ m) (List.range' i (d + 1)) (fun a _ => part_le hT m s a)
        have hmm : (d + 1) * 10 ^ m ≤ 10 * 10 ^ 10 := Nat.mul_le_mul (by omega) (Nat.pow_le_pow_right (by decide) (by omega))
        rw [List.length_range'] at hfl
        rw [List.range'_succ, List.flatMap_cons] at h
        have e1 : (i : Int) + 1 = ((i + 1 : Nat) : Int) := by omega
        have skip : ∀ r : Nat, ((List.range' (i + 1) d).flatMap (part T m s))[r]? = some e → spec_liWith.l1 k (cnts T) (r : Int) w (s : Int) T (T.length : Int) (wrap64 ((i : Int) + 1)) T = some (w ++ e) := by
          intro r h
          rw [w64 (by omega) (by omega), e1]
          exact ihd (i + 1) r k (by omega) h (by omega)
        rw [spec_liWith.l1, if_pos (by omega), if_pos (by omega), if_pos (by omega), poIn_nat s i (by omega), Option.bind_some]
        cases hb : s.testBit i with
        | true =>
          have hz : part T m s i = [] := by unfold part cand; rw [hb]; rfl
          rw [hz, List.nil_append] at h
          rw [if_pos rfl, spec_liWith.j2, if_pos rfl]
          exact skip r h
        | false =>
          rw [if_neg (by decide), spec_liWith.j2]
          by_cases hz : Go.bits .andNot .i64 (rd T (i : Int)) (s : Int) = 0
          · have hq := or_gt hb
            have hl := or_lt hs (show i < T.length by omega)
            have hpp : part T m s i = (ext T m (s ||| 2 ^ i)).map ((i : Int) :: ·) := by unfold part cand; rw [hb, hz]; rfl
            have hcc : cnt T (s ||| 2 ^ i) = ((part T m s i).length : Int) := by
              rw [hpp, List.length_map]
              unfold cnt
              rw [pc_or (show i < T.length by omega) hb, hp, show T.length - (w.length + 1) = m by omega]
            have hple := part_le hT m s i
            have hp10 : 10 ^ m ≤ 10 ^ 10 := Nat.pow_le_pow_right (by decide) (by omega)
            rw [if_neg (by rw [hz]; decide), if_pos (by omega), or_bit (by omega) (by omega), if_pos (by omega), if_pos (by rw [cnts_length]; omega), rd_cnts hl, hcc]
            by_cases hr : r < (part T m s i).length
            · rw [if_pos (by omega), if_pos (by omega)]
              rw [List.getElem?_append_left hr, hpp, List.getElem?_map, Option.map_eq_some_iff] at h
              obtain ⟨e', he', rfl⟩ := h
              rw [ih (w ++ [(i : Int)]) (s ||| 2 ^ i) r k e' (by simp; omega) (by rw [pc_or (show i < T.length by omega) hb, hp]; simp) hl he' (by omega)]
              simp
            · rw [if_neg (by omega)]
              rw [List.getElem?_append_right (by omega)] at h
              rw [w64 (x := (r : Int) - _) (by omega) (by omega), show (r : Int) - ((part T m s i).length : Int) = ((r - (part T m s i).length : Nat) : Int) by omega]
              exact skip _ h
          · have hpp : part T m s i = [] := by
              unfold part cand
              rw [hb, beq_eq_false_iff_ne.2 hz]
              rfl
            rw [hpp, List.nil_append] at h
            rw [if_pos (by simp [hz])]
            exact skip r h
    rw [spec_liWith.l0, if_pos (by omega)]
    exact go T.length 0 r k (by omega) (by rw [← List.range_eq_range']; exact he) (by omega)
theorem liWith_eq {T : List Int} (hT : T.length ≤ 10) {r : Nat} {e : List Int} (h : (ext T T.length 0)[r]? = some e) (k : Nat) (hk : 242 ≤ k) : spec_liWith.f k T (cnts T) (r : Int) = some e := by
  have := with_eq hT T.length [] 0 r k e (by simp) (pc_zero _) (Nat.pow_pos (by decide)) h (by omega)
  simpa [spec_liWith.f] using this
theorem rd_cnts0 {T : List Int} : rd (cnts T) 0 = ((ext T T.length 0).length : Int) := by
  have := rd_cnts (T := T) (j := 0) (Nat.pow_pos (by decide))
  rw [show (0 : Int) = ((0 : Nat) : Int) from rfl, this]
  unfold cnt
  rw [pc_zero, Nat.sub_zero]
theorem all_l0 {T : List Int} (hT : T.length ≤ 10) (hl : (ext T T.length 0).length ≤ 500) : ∀ (d r k : Nat), r + d = (ext T T.length 0).length → 243 + d ≤ k →
    spec_liAll.l0 k (cnts T) ((ext T T.length 0).take r) (r : Int) T = some (ext T T.length 0, true)
  | 0, r, k, hr, hk => by
    obtain ⟨k, rfl⟩ : ∃ m, k = m + 1 := ⟨k - 1, by omega⟩
    have h3 : 0 < 2 ^ T.length := Nat.pow_pos (by decide)
    rw [spec_liAll.l0, if_pos (by rw [cnts_length]; omega), rd_cnts0, if_neg (by omega), List.take_of_length_le (by omega)]
  | d + 1, r, k, hr, hk => by
    obtain ⟨k, rfl⟩ : ∃ m, k = m + 1 := ⟨k - 1, by omega⟩
    have h3 : 0 < 2 ^ T.length := Nat.pow_pos (by decide)
    have hlt : r < (ext T T.length 0).length := by omega
    have e1 : (r : Int) + 1 = ((r + 1 : Nat) : Int) := by omega
    rw [spec_liAll.l0, if_pos (by rw [cnts_length]; omega), rd_cnts0, if_pos (by omega), liWith_eq hT (List.getElem?_eq_getElem hlt) k (by omega), Option.bind_some, if_pos (by rw [List.length_take]; omega), w64 (by omega) (by omega), e1, List.take_append_getElem hlt]
    exact all_l0 hT hl d (r + 1) k (by omega) (by omega)
theorem liAll_eq {T : List Int} (hT : T.length ≤ 10) (k : Nat) (hk : 12500 ≤ k) : spec_liAll.f k T = some (if (ext T T.length 0).length ≤ 500 then (ext T T.length 0, true) else ([], false)) := by
  have h3 : 0 < 2 ^ T.length := Nat.pow_pos (by decide)
  unfold spec_liAll.f
  rw [liCounts_eq hT k hk, Option.bind_some, if_pos (by rw [cnts_length]; omega), rd_cnts0]
  by_cases h : (ext T T.length 0).length ≤ 500
  · rw [if_neg (by omega), if_pos h]
    exact all_l0 hT h (ext T T.length 0).length 0 k (by omega) (by omega)
  · rw [if_pos (by omega), if_neg h]
/-! ### Promotion's fixed words, plainly -/
theorem own_eq (x : List Int) (h : x.length < 17592186044416) : spec_l1Own.f x = some x := by
  unfold spec_l1Own.f
  rw [Option.bind_some, if_pos (by simpa using h)]
  rfl
theorem own_some {x y : List Int} (h : spec_l1Own.f x = some y) : y = x := by
  unfold spec_l1Own.f at h
  rw [Option.bind_some] at h
  split at h
  · exact (Option.some.inj h).symm
  · cases h
theorem tog_len {T x y : List Int} {i : Int} (h : spec_liToggle.f T x i = some y) : y.length = x.length := by
  unfold spec_liToggle.f at h
  obtain ⟨t, ht, h⟩ := Option.bind_eq_some_iff.mp h
  have := own_some ht
  subst this
  split at h
  case isFalse => cases h
  split at h
  case isFalse => cases h
  split at h
  case isFalse => cases h
  split at h
  case isFalse => cases h
  obtain ⟨b, _, h⟩ := Option.bind_eq_some_iff.mp h
  split at h
  · rw [← Option.some.inj h]
  · (repeat' split at h) <;> first | (cases h; done) | (rw [← Option.some.inj h, List.length_set, List.length_set])
/-- One promotion. -/
def ups (T : List Int) (i : Nat) : Nat → List Int → Option (List Int)
  | 0, x => some x
  | d + 1, x => (spec_liToggle.f T x (i : Int)).bind (ups T (i + 1) d)
def stp (T x : List Int) : Option (List Int) := ups T 0 (x.length - 1) x
theorem ups_len {T : List Int} : ∀ (d i : Nat) {x y : List Int}, ups T i d x = some y → y.length = x.length
  | 0, i, x, y, h => by rw [← Option.some.inj h]
  | d + 1, i, x, y, h => by
    obtain ⟨t, ht, h⟩ := Option.bind_eq_some_iff.mp h
    rw [ups_len d (i + 1) h, tog_len ht]
theorem up_eq (T : List Int) : ∀ (d i k : Nat) (x : List Int), d < k → i + d < 4611686018427387904 → spec_liUp.l0 k x ((i + d : Nat) : Int) (i : Int) T = ups T i d x
  | 0, i, k, x, hk, hi => by
    obtain ⟨k, rfl⟩ : ∃ m, k = m + 1 := ⟨k - 1, by omega⟩
    rw [spec_liUp.l0, if_neg (by omega)]
    rfl
  | d + 1, i, k, x, hk, hi => by
    obtain ⟨k, rfl⟩ : ∃ m, k = m + 1 := ⟨k - 1, by omega⟩
    rw [spec_liUp.l0, if_pos (by omega), w64 (by omega) (by omega), show (i : Int) + 1 = ((i + 1 : Nat) : Int) by omega]
    show _ = (spec_liToggle.f T x (i : Int)).bind (ups T (i + 1) d)
    congr 1
    funext t
    rw [← up_eq T d (i + 1) k t (by omega) (by omega), show i + 1 + d = i + (d + 1) by omega]
def iter (T : List Int) : Nat → List Int → Option (List Int)
  | 0, x => some x
  | d + 1, x => (stp T x).bind (iter T d)
theorem iter_add (T : List Int) : ∀ (c d : Nat) (x : List Int), iter T (c + d) x = (iter T c x).bind (iter T d)
  | 0, d, x => by rw [Nat.zero_add]; rfl
  | c + 1, d, x => by
    rw [show c + 1 + d = (c + d) + 1 by omega]
    show (stp T x).bind (iter T (c + d)) = ((stp T x).bind (iter T c)).bind (iter T d)
    rw [Option.bind_assoc]
    congr 1
    funext y
    exact iter_add T c d y
theorem iter_mod {T x : List Int} {n : Nat} (h : iter T n x = some x) : ∀ d, iter T d x = iter T (d % n) x := by
  intro d
  induction d using Nat.strongRecOn with
  | _ d ih =>
    rcases Nat.lt_or_ge d n with hd | hd
    · rw [Nat.mod_eq_of_lt hd]
    · rcases Nat.eq_zero_or_pos n with h0 | h0
      · subst h0; rw [Nat.mod_zero]
      · rw [show d = n + (d - n) by omega, iter_add, h, Option.bind_some, ih (d - n) (by omega), Nat.add_mod_left]
theorem promote_eq (T : List Int) : ∀ (d k : Nat) (x z : List Int), 1 ≤ x.length → x.length ≤ 10 → d + 12 < k → d ≤ 100 → iter T d x = some z → spec_liPromote.l0 k x (d : Int) T = some z
  | 0, k, x, z, h1, h2, hk, hd, h => by
    obtain ⟨k, rfl⟩ : ∃ m, k = (m + 1) + 1 := ⟨k - 2, by omega⟩
    rw [spec_liPromote.l0, if_neg (by omega), spec_liPromote.l1, if_neg (by omega), own_eq x (by omega)]
    exact h
  | d + 1, k, x, z, h1, h2, hk, hd, h => by
    obtain ⟨k, rfl⟩ : ∃ m, k = m + 1 := ⟨k - 1, by omega⟩
    obtain ⟨y, hy, h⟩ := Option.bind_eq_some_iff.mp h
    have hyl : y.length = x.length := ups_len _ _ hy
    have hu : spec_liUp.f k T x (wrap64 ((x.length : Int) - 1)) = some y := by
      rw [w64 (by omega) (by omega), show (x.length : Int) - 1 = ((0 + (x.length - 1) : Nat) : Int) by omega]
      exact (up_eq T (x.length - 1) 0 k x (by omega) (by omega)).trans hy
    rw [spec_liPromote.l0, if_pos (by omega), hu, Option.bind_some, w64 (by omega) (by omega), show ((d + 1 : Nat) : Int) - 1 = (d : Int) by omega]
    exact promote_eq T d k y z (by omega) (by omega) (by omega) (by omega) h
theorem iter_len {T : List Int} : ∀ (d : Nat) {x z : List Int}, iter T d x = some z → z.length = x.length
  | 0, x, z, h => by rw [← Option.some.inj h]
  | d + 1, x, z, h => by
    obtain ⟨y, hy, h⟩ := Option.bind_eq_some_iff.mp h
    rw [iter_len d h, ups_len _ _ hy]
theorem same_l0 {x y : List Int} (h : x.length = y.length) (hl : x.length ≤ 10) : ∀ (d j k : Nat), j + d = x.length → d < k → spec_l1Same.l0 k x y (x.length : Int) (j : Int) = some (decide (x.drop j = y.drop j))
  | 0, j, k, hj, hk => by
    obtain ⟨k, rfl⟩ : ∃ m, k = m + 1 := ⟨k - 1, by omega⟩
    rw [spec_l1Same.l0, if_neg (by omega), List.drop_of_length_le (by omega), List.drop_of_length_le (by omega)]
    simp
  | d + 1, j, k, hj, hk => by
    obtain ⟨k, rfl⟩ : ∃ m, k = m + 1 := ⟨k - 1, by omega⟩
    have hjx : j < x.length := by omega
    have hjy : j < y.length := by omega
    rw [spec_l1Same.l0, if_pos (by omega), if_pos (by omega), if_pos (by omega), if_pos (by omega), rd_nat, rd_nat, getD_of_lt _ _ hjx, getD_of_lt _ _ hjy, List.drop_eq_getElem_cons hjx, List.drop_eq_getElem_cons hjy, w64 (by omega) (by omega), show (j : Int) + 1 = ((j + 1 : Nat) : Int) by omega]
    by_cases hq : x[j] = y[j]
    · rw [if_pos hq, same_l0 h hl d (j + 1) k (by omega) (by omega)]
      simp only [hq, List.cons.injEq, true_and]
    · rw [if_neg hq]
      simp only [hq, List.cons.injEq, false_and, decide_false]
theorem same_eq {x y : List Int} (h : x.length = y.length) (hl : x.length ≤ 10) (k : Nat) (hk : 10 < k) : spec_l1Same.f k x y = some (decide (x = y)) := by
  unfold spec_l1Same.f
  rw [if_pos (by omega)]
  have := same_l0 h hl x.length 0 k (by omega) (by omega)
  simpa using this
/-- Which of the first d promotions bring y to x. -/
def hit (T x : List Int) : Nat → List Int → Option (List Bool)
  | 0, y => some [decide (y = x)]
  | d + 1, y => (stp T y).bind fun z => (hit T x d z).bind fun r => some (decide (y = x) :: r)
theorem hit_iter {T x : List Int} : ∀ (D : Nat) {y : List Int} {r : List Bool}, hit T x D y = some r → ∀ d, d ≤ D → ∃ z, iter T d y = some z ∧ r[d]? = some (decide (z = x))
  | 0, y, r, h, d, hd => by
    obtain rfl : d = 0 := by omega
    refine ⟨y, rfl, ?_⟩
    rw [← Option.some.inj h]
    rfl
  | D + 1, y, r, h, d, hd => by
    obtain ⟨z, hz, h⟩ := Option.bind_eq_some_iff.mp h
    obtain ⟨r', hr', h⟩ := Option.bind_eq_some_iff.mp h
    cases d with
    | zero => exact ⟨y, rfl, by rw [← Option.some.inj h]; rfl⟩
    | succ d =>
      obtain ⟨u, hu, hd2⟩ := hit_iter D hr' d (by omega)
      refine ⟨u, ?_, by rw [← Option.some.inj h]; simpa using hd2⟩
      show (stp T y).bind (iter T d) = some u
      rw [hz]
      exact hu
/-- The table of one word: it has the right length, it comes back after n promotions. -/
def word (T x : List Int) : Option (List Bool) := if x.length = T.length ∧ 0 < T.length then (hit T x T.length x).bind fun r => if r[T.length]? = some true then some r else none else none
def words (T : List Int) : List (List Int) → Option (List (List Bool))
  | [] => some []
  | x :: xs => (word T x).bind fun r => (words T xs).bind fun rs => some (r :: rs)
theorem word_hit {T x : List Int} {r : List Bool} (h : word T x = some r) (d : Nat) : x.length = T.length ∧ ∃ z, iter T d x = some z ∧ r.getD (d % T.length) false = decide (z = x) := by
  unfold word at h
  split at h
  case isFalse => cases h
  rename_i hl
  obtain ⟨r', hr, h⟩ := Option.bind_eq_some_iff.mp h
  split at h
  case isFalse => cases h
  rename_i hn
  obtain rfl := Option.some.inj h
  obtain ⟨z, hz, hzx⟩ := hit_iter T.length hr T.length (Nat.le_refl _)
  rw [hn] at hzx
  have hzx' : z = x := by simpa using (Option.some.inj hzx).symm
  subst hzx'
  refine ⟨hl.1, ?_⟩
  have hm : d % T.length ≤ T.length := Nat.le_of_lt (Nat.mod_lt _ hl.2)
  obtain ⟨u, hu, hux⟩ := hit_iter T.length hr (d % T.length) hm
  refine ⟨u, by rw [iter_mod hz d]; exact hu, ?_⟩
  rw [List.getD_eq_getElem?_getD, hux]
  rfl
theorem words_get {T : List Int} : ∀ {xs : List (List Int)} {H : List (List Bool)}, words T xs = some H → H.length = xs.length ∧ ∀ (p : Nat) (h : p < xs.length), word T xs[p] = some (H.getD p [])
  | [], H, h => by rw [← Option.some.inj h]; exact ⟨rfl, fun p hp => absurd hp (by simp)⟩
  | x :: xs, H, h => by
    obtain ⟨r, hr, h⟩ := Option.bind_eq_some_iff.mp h
    obtain ⟨rs, hrs, h⟩ := Option.bind_eq_some_iff.mp h
    obtain ⟨h1, h2⟩ := words_get hrs
    rw [← Option.some.inj h]
    refine ⟨by simp [h1], fun p hp => ?_⟩
    cases p with
    | zero => simpa using hr
    | succ p => simpa using h2 p (by simpa using hp)
def tally (H : List (List Bool)) (j : Nat) : Nat := H.countP fun r => r.getD j false
theorem count_l0 {T : List Int} (hT : T.length ≤ 10) {A : List (List Int)} (hA : A.length ≤ 500) {H : List (List Bool)} (hw : words T A = some H) {d : Nat} (hd : d ≤ 100) : ∀ (m p c k : Nat), p + m = A.length → c ≤ p → m + 130 < k →
    spec_CountReturned.l0 k (d : Int) (c : Int) A (A.length : Int) (p : Int) T = some (((c + tally (H.drop p) (d % T.length) : Nat) : Int), true)
  | 0, p, c, k, hp, hc, hk => by
    obtain ⟨k, rfl⟩ : ∃ m, k = m + 1 := ⟨k - 1, by omega⟩
    rw [spec_CountReturned.l0, if_neg (by omega), List.drop_of_length_le (by rw [(words_get hw).1]; omega)]
    rfl
  | m + 1, p, c, k, hp, hc, hk => by
    obtain ⟨k, rfl⟩ : ∃ m, k = m + 1 := ⟨k - 1, by omega⟩
    have hpl : p < A.length := by omega
    obtain ⟨hH, hg⟩ := words_get hw
    have hgp := hg p hpl
    obtain ⟨hl, z, hz, hzx⟩ := word_hit hgp d
    have hpos : 1 ≤ A[p].length := by
      unfold word at hgp
      split at hgp
      · rename_i hq; omega
      · cases hgp
    have hrd : rd_L1 A (p : Int) = A[p] := by unfold rd_L1; rw [Int.toNat_natCast]; exact getD_of_lt _ _ hpl
    have hpH : p < H.length := by omega
    have hds : tally (H.drop p) (d % T.length) = tally (H.drop (p + 1)) (d % T.length) + if decide (z = A[p]) = true then 1 else 0 := by
      rw [List.drop_eq_getElem_cons hpH]
      unfold tally
      rw [List.countP_cons, ← hzx, List.getD_eq_getElem?_getD (l := H), List.getElem?_eq_getElem hpH]
      rfl
    rw [spec_CountReturned.l0, if_pos (by omega), if_pos (by omega), if_pos (by omega), hrd, show spec_liPromote.f k T A[p] (d : Int) = some z from promote_eq T d k A[p] z hpos (by omega) (by omega) hd hz, Option.bind_some, same_eq (iter_len d hz) (by rw [iter_len d hz]; omega) k (by omega), Option.bind_some, hds, w64 (x := (p : Int) + 1) (by omega) (by omega), show (p : Int) + 1 = ((p + 1 : Nat) : Int) by omega]
    by_cases hq : z = A[p]
    · rw [if_pos (by simp [hq]), w64 (by omega) (by omega), show (c : Int) + 1 = ((c + 1 : Nat) : Int) by omega, count_l0 hT hA hw hd m (p + 1) (c + 1) k (by omega) (by omega) (by omega), if_pos (by simp [hq])]
      congr 2
      omega
    · rw [if_neg (by simp [hq]), count_l0 hT hA hw hd m (p + 1) c k (by omega) (by omega) (by omega), if_neg (by simp [hq])]
      rfl
theorem CountReturned_eq {T : List Int} (hT : T.length ≤ 10) (k : Nat) (hg : spec_poGood.f k T = some true) (hA : (ext T T.length 0).length ≤ 500) {H : List (List Bool)} (hw : words T (ext T T.length 0) = some H) {d : Nat} (hd : d ≤ 100) (hk : 13200 ≤ k) :
    spec_CountReturned.f k T (d : Int) = some ((tally H (d % T.length) : Int), true) := by
  obtain ⟨k, rfl⟩ : ∃ m, k = m + 1 := ⟨k - 1, by omega⟩
  have hin : spec_l1In.f (d : Int) 0 100 = some true := by
    unfold spec_l1In.f
    rw [if_pos (by omega), decide_eq_true (by omega)]
  unfold spec_CountReturned.f
  rw [hg, Option.bind_some, if_pos rfl, hin, Option.bind_some, Bool.not_true, spec_CountReturned.j0, if_neg (by decide), liAll_eq hT k (by omega), Option.bind_some, if_pos hA, if_pos rfl]
  have := count_l0 hT hA hw hd (ext T T.length 0).length 0 0 k (by omega) (by omega) (by omega)
  rw [List.drop_zero, Nat.zero_add] at this
  exact this
/-- What a shape's numbers must be. -/
def shapeOk (a b : Int) (T L : List Int) : Bool :=
  decide (spec_shSides.f a b = some true) && decide (impl_areSides.f a b 10 = some true) && decide (spec_poRectangle.f 19999 a b = some T) && decide (spec_poGood.f 19999 T = some true) && decide (T.length ≤ 10) && decide ((ext T T.length 0).length ≤ 500) &&
  match words T (ext T T.length 0) with
  | none => false
  | some H => (List.range 61).all fun d => decide (impl_fixed.f 19999 L (d : Int) = some (tally H (d % T.length) : Int))
theorem shape {a b : Int} {T L : List Int} (h : shapeOk a b T L = true) (hL : impl_promotionLengths.f 19999 a b = some L) (d : Int) : laws_FnExactPromotionFixed.f 20000 a b d = some true := by
  unfold shapeOk at h
  simp only [Bool.and_eq_true, decide_eq_true_eq] at h
  obtain ⟨⟨⟨⟨⟨⟨h1, h2⟩, h3⟩, h4⟩, h5⟩, h6⟩, h7⟩ := h
  cases hw : words T (ext T T.length 0) with
  | none => rw [hw] at h7; cases h7
  | some H =>
    rw [hw] at h7
    have h8 := List.all_eq_true.1 h7
    have hs : spec_svTurn.f d = some (decide (0 ≤ d ∧ d ≤ 60)) := by
      unfold spec_svTurn.f spec_l1In.f
      by_cases c1 : d ≥ 0
      · rw [if_pos c1]
        simp [c1]
      · rw [if_neg c1]
        have : ¬ (0 ≤ d) := c1
        simp [this]
    have hi : impl_within.f d 0 60 = some (decide (0 ≤ d ∧ d ≤ 60)) := by
      unfold impl_within.f
      by_cases c1 : 0 ≤ d <;> simp [c1]
    have e1 : spec_PromotionFixed.f 20000 a b d = if 0 ≤ d ∧ d ≤ 60 then (spec_CountReturned.f 19999 T d).bind (fun p => some (p.1, p.2)) else some (0, false) := by
      unfold spec_PromotionFixed.f
      rw [h1, Option.bind_some, if_pos rfl, hs, Option.bind_some, show (20000 : Nat) = 19999 + 1 from rfl, spec_PromotionFixed.j0, h3, Option.bind_some]
      by_cases c : 0 ≤ d ∧ d ≤ 60
      · rw [if_pos c, decide_eq_true c, if_neg (by decide)]
      · rw [if_neg c, decide_eq_false c, if_pos (by decide)]
    have e2 : impl_PromotionFixed.f 20000 a b d = if 0 ≤ d ∧ d ≤ 60 then (impl_fixed.f 19999 L d).bind (fun t => some (t, true)) else some (0, false) := by
      unfold impl_PromotionFixed.f
      rw [h2, Option.bind_some, if_pos rfl, hi, Option.bind_some, show (20000 : Nat) = 19999 + 1 from rfl, impl_PromotionFixed.j0, hL, Option.bind_some]
      by_cases c : 0 ≤ d ∧ d ≤ 60
      · rw [if_pos c, decide_eq_true c, if_neg (by decide)]
      · rw [if_neg c, decide_eq_false c, if_pos (by decide)]
    unfold laws_FnExactPromotionFixed.f
    rw [e1, e2]
    by_cases c : 0 ≤ d ∧ d ≤ 60
    · obtain ⟨n, rfl⟩ : ∃ n : Nat, d = (n : Int) := ⟨d.toNat, by omega⟩
      have h9 := of_decide_eq_true (h8 n (List.mem_range.2 (by omega)))
      rw [if_pos c, if_pos c, CountReturned_eq h5 19999 h4 h6 hw (by omega) (by omega), h9]
      simp
    · rw [if_neg c, if_neg c]
      rfl
theorem outside (a b d : Int) (h : ¬ ((1 ≤ a ∧ a ≤ 10) ∧ (1 ≤ b ∧ b ≤ 10) ∧ wrap64 (a * b) ≤ 10)) : laws_FnExactPromotionFixed.f 20000 a b d = some true := by
  have hs : spec_shSides.f a b = some false := by
    unfold spec_shSides.f spec_l1In.f
    by_cases h1 : a ≥ 1 <;> by_cases h2 : a ≤ 10 <;> by_cases h3 : b ≥ 1 <;> by_cases h4 : b ≤ 10 <;> simp [h1, h2, h3, h4] <;> omega
  have hi : impl_areSides.f a b 10 = some false := by
    unfold impl_areSides.f impl_within.f
    by_cases h1 : 1 ≤ a <;> by_cases h2 : a ≤ 10 <;> by_cases h3 : 1 ≤ b <;> by_cases h4 : b ≤ 10 <;> simp [h1, h2, h3, h4] <;> omega
  have e1 : spec_PromotionFixed.f 20000 a b d = some (0, false) := by
    unfold spec_PromotionFixed.f
    rw [hs]
    rfl
  have e2 : impl_PromotionFixed.f 20000 a b d = some (0, false) := by
    unfold impl_PromotionFixed.f
    rw [hi]
    rfl
  unfold laws_FnExactPromotionFixed.f
  rw [e1, e2]
  rfl
end Go.Proofs.Ytcajljndcddldaa.Pure
