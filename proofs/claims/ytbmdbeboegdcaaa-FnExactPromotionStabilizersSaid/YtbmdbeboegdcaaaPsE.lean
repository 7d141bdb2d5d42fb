/- The plain law of promotion's stabilizers: the lists of all linear extensions, the rank of a word. -/
import Derived.Test.YtbmdbeboegdcaaaPPgx14
import Derived.Laws.BitsLemmas
import Derived.Laws.Bits64b
namespace Go.Proofs.Ytbmdbeboegdcaaa.Pure
set_option linter.unusedVariables false
open Go.RowKit Go.Proofs.Ytbmdbeboegdcaaa.PPg Go.Proofs.YtbmdbeboegdcaaaW.PrintWords Go.Proofs.YtbmdbeboegdcaaaW.PrintLast
/-! ### Whole numbers as Go has them, and bits -/
theorem w64 {x : Int} (h0 : -9223372036854775808 ≤ x) (h1 : x < 9223372036854775808) : wrap64 x = x := by unfold wrap64; omega
/-- Bit j of a number. -/
def bit (m : Int) (j : Nat) : Bool := decide ((m / 2 ^ j) % 2 = 1)
theorem shr_small_ (m : Int) (j : Nat) (hj : j ≤ 64) : shr .i64 m (j : Int) = m / 2 ^ j := by
  unfold shr
  rw [Int.toNat_natCast, Nat.min_eq_left (by simpa [IntKind.bits] using hj)]
theorem shl_one (j : Nat) (hj : j ≤ 62) : shl .i64 1 (j : Int) = 2 ^ j := by
  unfold shl
  rw [Int.toNat_natCast, Nat.min_eq_left (by simp [IntKind.bits]; omega), Int.one_mul, i64_w]
  have h1 : (2 : Nat) ^ j ≤ 2 ^ 62 := Nat.pow_le_pow_right (by decide) hj
  have h2 : ((2 : Int) ^ j) = ((2 ^ j : Nat) : Int) := by simp
  have h3 : 0 < (2 : Nat) ^ j := Nat.pow_pos (by decide)
  rw [h2]
  exact w64 (by omega) (by omega)
theorem div_pow_bounds {m : Int} (h0 : 0 ≤ m) (h1 : m < 9223372036854775808) (j : Nat) : 0 ≤ m / 2 ^ j ∧ m / 2 ^ j < 9223372036854775808 := by
  have hp : (0 : Int) < 2 ^ j := Int.pow_pos (by decide)
  refine ⟨Int.ediv_nonneg h0 (Int.le_of_lt hp), Int.lt_of_le_of_lt (Int.ediv_le_self _ h0) h1⟩
theorem tmod_bit {m : Int} (h0 : 0 ≤ m) (j : Nat) (hj : j ≤ 64) : (Int.tmod (shr .i64 m (j : Int)) 2 = 1) ↔ bit m j = true := by
  rw [shr_small_ m j hj]
  have hp : (0 : Int) < 2 ^ j := Int.pow_pos (by decide)
  rw [Int.tmod_eq_emod_of_nonneg (Int.ediv_nonneg h0 (Int.le_of_lt hp))]
  simp [bit]
theorem p63 : (2 : Int) ^ 63 = 9223372036854775808 := by decide +kernel
theorem and_one {x : Int} (h0 : 0 ≤ x) (h1 : x < 9223372036854775808) : Go.bits .and .i64 x 1 = x % 2 := by
  exact bits_mask .i64 63 (by decide) (fun n h0 h1 => by rw [i64_w]; rw [p63] at h1; exact w64 (by omega) h1) 1 (by decide) x h0 (by rw [p63]; exact h1)
theorem has_bit {m : Int} (h0 : 0 ≤ m) (h1 : m < 9223372036854775808) (j : Nat) (hj : j ≤ 64) : (Go.bits .and .i64 (shr .i64 m (j : Int)) 1 == 1) = bit m j := by
  rw [shr_small_ m j hj]
  obtain ⟨h2, h3⟩ := div_pow_bounds h0 h1 j
  rw [and_one h2 h3]
  simp only [bit, Bool.beq_eq_decide_eq]
theorem bit_small {m : Int} {i j : Nat} (h0 : 0 ≤ m) (h1 : m < 2 ^ i) (hij : i ≤ j) : bit m j = false := by
  have h2 : m < 2 ^ j := Int.lt_of_lt_of_le h1 (by exact_mod_cast Nat.pow_le_pow_right (by decide) hij)
  simp only [bit, Int.ediv_eq_zero_of_lt h0 h2]
  decide
theorem pow_le62 {i : Nat} (hi : i ≤ 62) : (2 : Int) ^ i ≤ 4611686018427387904 := by
  have : (2 : Nat) ^ i ≤ 2 ^ 62 := Nat.pow_le_pow_right (by decide) hi
  have h2 : ((2 : Int) ^ i) = ((2 ^ i : Nat) : Int) := by simp
  rw [h2]
  omega
theorem rd_nat (l : List Int) (i : Nat) : rd l (i : Int) = l.getD i 0 := by unfold rd; rw [Int.toNat_natCast]
/-- A list of natural numbers as whole numbers. -/
def ints (l : List Nat) : List Int := l.map Int.ofNat
theorem ints_length (l : List Nat) : (ints l).length = l.length := by simp [ints]
theorem rd_ints {l : List Nat} {i : Nat} (h : i < l.length) : rd (ints l) (i : Int) = (l[i] : Int) := by
  rw [rd_nat, List.getD_eq_getElem?_getD, List.getElem?_eq_getElem (by rw [ints_length]; exact h)]
  simp [ints]
/-- The bits of a number below 10. -/
def bitsOf (m : Int) : List Nat := (List.range 10).filter (bit m)
theorem getD_of_lt {α : Type} (l : List α) (d : α) {i : Nat} (h : i < l.length) : l.getD i d = l[i] := by rw [List.getD_eq_getElem?_getD, List.getElem?_eq_getElem h]; rfl
/-! ### All linear extensions, plainly -/
theorem or_i64_nat (a b : Nat) (ha : a < 9223372036854775808) (hb : b < 9223372036854775808) : Go.bits .or .i64 (a : Int) (b : Int) = ((a ||| b : Nat) : Int) := by
  have hx : a ||| b < 2 ^ 63 := Nat.or_lt_two_pow (by omega) (by omega)
  have h1 : (BitVec.ofInt 64 (a : Int)).toNat = a := by
    rw [BitVec.ofInt_natCast, BitVec.toNat_ofNat]; exact Nat.mod_eq_of_lt (by omega)
  have h2 : (BitVec.ofInt 64 (b : Int)).toNat = b := by
    rw [BitVec.ofInt_natCast, BitVec.toNat_ofNat]; exact Nat.mod_eq_of_lt (by omega)
  show IntKind.i64.wrap ((BitVec.ofInt 64 (a : Int) ||| BitVec.ofInt 64 (b : Int)).toNat : Int) = _
  rw [BitVec.toNat_or, h1, h2, i64_w]
  exact w64 (by omega) (by omega)
def pc : Nat → Nat → Nat
  | 0, _ => 0
  | n + 1, s => pc n s + (s.testBit n).toNat
theorem pc_far {n s i : Nat} (h : n ≤ i) : pc n (s ||| 2 ^ i) = pc n s := by
  induction n with
  | zero => rfl
  | succ n ih =>
    simp only [pc, Nat.testBit_or, Nat.testBit_two_pow]
    rw [ih (by omega), decide_eq_false (by omega), Bool.or_false]
theorem pc_or {n s i : Nat} (h : i < n) (hb : s.testBit i = false) : pc n (s ||| 2 ^ i) = pc n s + 1 := by
  induction n with
  | zero => omega
  | succ n ih =>
    simp only [pc, Nat.testBit_or, Nat.testBit_two_pow]
    rcases Nat.lt_or_ge i n with hi | hi
    · rw [ih hi, decide_eq_false (by omega), Bool.or_false]
      omega
    · obtain rfl : i = n := by omega
      rw [pc_far (Nat.le_refl _), hb, decide_eq_true rfl]
      rfl
theorem pc_le (n s : Nat) : pc n s ≤ n := by
  induction n with
  | zero => exact Nat.le_refl _
  | succ n ih => simp only [pc]; cases s.testBit n <;> simp <;> omega
theorem pc_all {n s : Nat} (h : pc n s = n) : ∀ j, j < n → s.testBit j = true := by
  induction n with
  | zero => intro j hj; omega
  | succ n ih =>
    have := pc_le n s
    simp only [pc] at h
    cases hb : s.testBit n with
    | false => rw [hb] at h; simp at h; omega
    | true =>
      rw [hb] at h
      intro j hj
      rcases Nat.lt_or_ge j n with h1 | h1
      · exact ih (by simpa using h) j h1
      · obtain rfl : j = n := by omega
        exact hb
theorem pc_lt {n s : Nat} (hs : s < 2 ^ n) (hne : s ≠ 2 ^ n - 1) : pc n s < n := by
  have := pc_le n s
  rcases Nat.lt_or_ge (pc n s) n with h | h
  · exact h
  · refine absurd (Nat.eq_of_testBit_eq (fun j => ?_)) hne
    rw [Nat.testBit_two_pow_sub_one]
    rcases Nat.lt_or_ge j n with h1 | h1
    · rw [pc_all (by omega) j h1, decide_eq_true h1]
    · rw [decide_eq_false (by omega), Nat.testBit_lt_two_pow (Nat.lt_of_lt_of_le hs (Nat.pow_le_pow_right (by decide) h1))]
theorem pc_full (n : Nat) : pc n (2 ^ n - 1) = n := by
  have h : ∀ m, m ≤ n → pc m (2 ^ n - 1) = m := by
    intro m
    induction m with
    | zero => intro _; rfl
    | succ m ih => intro hm; simp only [pc]; rw [ih (by omega), Nat.testBit_two_pow_sub_one, decide_eq_true (by omega)]; rfl
  exact h n (Nat.le_refl n)
theorem pc_zero (n : Nat) : pc n 0 = 0 := by
  induction n with
  | zero => rfl
  | succ n ih => simp [pc, ih]
theorem or_gt {s i : Nat} (hb : s.testBit i = false) : s < s ||| 2 ^ i := by
  have h1 : s ≤ s ||| 2 ^ i := Nat.left_le_or
  rcases Nat.lt_or_ge s (s ||| 2 ^ i) with h | h
  · exact h
  · have : (s ||| 2 ^ i).testBit i = s.testBit i := by rw [show s ||| 2 ^ i = s by omega]
    rw [Nat.testBit_or, Nat.testBit_two_pow, hb] at this
    simp at this
theorem or_lt {n s i : Nat} (hs : s < 2 ^ n) (hi : i < n) : s ||| 2 ^ i < 2 ^ n := Nat.or_lt_two_pow hs (Nat.pow_lt_pow_right (by decide) hi)
theorem bit_nat (s i : Nat) : bit (s : Int) i = s.testBit i := by
  unfold bit
  rw [Nat.testBit_eq_decide_div_mod_eq]
  have : ((s : Int) / 2 ^ i) % 2 = ((s / 2 ^ i % 2 : Nat) : Int) := by simp
  rw [this]
  exact decide_eq_decide.2 (by omega)
theorem poIn_nat (s i : Nat) (hi : i ≤ 64) : spec_poIn.f (s : Int) (i : Int) = some (s.testBit i) := by
  unfold spec_poIn.f
  rw [if_pos (by omega), ← bit_nat]
  congr 1
  rw [Bool.eq_iff_iff, beq_iff_eq]
  exact tmod_bit (by omega) i hi
theorem or_bit {s i : Nat} (hs : s < 1024) (hi : i < 10) : Go.bits .or .i64 (s : Int) (shl .i64 1 (i : Int)) = ((s ||| 2 ^ i : Nat) : Int) := by
  have hp : 2 ^ i < 2 ^ 10 := Nat.pow_lt_pow_right (by decide) hi
  rw [shl_one i (by omega), show (2 : Int) ^ i = ((2 ^ i : Nat) : Int) by simp, or_i64_nat s (2 ^ i) (by omega) (by omega)]
/-- May the element i come next, when s is there? -/
def cand (T : List Int) (s i : Nat) : Bool := !s.testBit i && (Go.bits .andNot .i64 (rd T (i : Int)) (s : Int) == 0)
/-- What may follow, m elements, when s is there: all words, in the order of the alphabet. -/
def ext (T : List Int) : Nat → Nat → List (List Int)
  | 0, _ => [[]]
  | m + 1, s => (List.range T.length).flatMap fun i => if cand T s i = true then (ext T m (s ||| 2 ^ i)).map ((i : Int) :: ·) else []
def part (T : List Int) (m s i : Nat) : List (List Int) := if cand T s i = true then (ext T m (s ||| 2 ^ i)).map ((i : Int) :: ·) else []
theorem ext_succ (T : List Int) (m s : Nat) : ext T (m + 1) s = (List.range T.length).flatMap (part T m s) := rfl
theorem flat_le {α β : Type} (f : α → List β) (b : Nat) : ∀ (l : List α), (∀ a ∈ l, (f a).length ≤ b) → (l.flatMap f).length ≤ l.length * b
  | [], _ => by simp
  | x :: l, h => by
    rw [List.flatMap_cons, List.length_append, List.length_cons, Nat.succ_mul]
    have h1 := h x (List.mem_cons_self ..)
    have h2 := flat_le f b l (fun a ha => h a (List.mem_cons_of_mem _ ha))
    omega
theorem ext_le {T : List Int} (hT : T.length ≤ 10) : ∀ (m s : Nat), (ext T m s).length ≤ 10 ^ m
  | 0, _ => by simp [ext]
  | m + 1, s => by
    rw [ext_succ]
    refine Nat.le_trans (flat_le _ (10 ^ m) _ (fun i _ => ?_)) ?_
    · unfold part
      split
      · rw [List.length_map]; exact ext_le hT m _
      · simp
    · rw [List.length_range, Nat.pow_succ, Nat.mul_comm]
      exact Nat.mul_le_mul_left _ hT
theorem part_le {T : List Int} (hT : T.length ≤ 10) (m s i : Nat) : (part T m s i).length ≤ 10 ^ m := by
  unfold part
  split
  · rw [List.length_map]; exact ext_le hT m _
  · simp
/-- How many words follow s. -/
def cnt (T : List Int) (s : Nat) : Int := ((ext T (T.length - pc T.length s) s).length : Int)
def upto (T : List Int) (m s i : Nat) : Int := (((List.range i).flatMap (part T m s)).length : Int)
theorem upto_succ (T : List Int) (m s i : Nat) : upto T m s (i + 1) = upto T m s i + ((part T m s i).length : Int) := by
  unfold upto
  rw [List.range_succ, List.flatMap_append, List.length_append]
  simp
theorem upto_le {T : List Int} (hT : T.length ≤ 10) {m : Nat} (s : Nat) {i : Nat} (hi : i ≤ 10) (hm : m ≤ 10) : upto T m s i ≤ 100000000000 := by
  unfold upto
  have h1 := flat_le (part T m s) (10 ^ m) (List.range i) (fun a _ => part_le hT m s a)
  have h2 : 10 ^ m ≤ 10 ^ 10 := Nat.pow_le_pow_right (by decide) hm
  rw [List.length_range] at h1
  have h3 : i * 10 ^ m ≤ 10 * 10 ^ 10 := Nat.mul_le_mul hi h2
  omega
theorem rd_set_same {x : List Int} {s : Nat} (h : s < x.length) (v : Int) : rd (x.set s v) (s : Int) = v := by
  rw [rd_nat, List.getD_eq_getElem?_getD, List.getElem?_set_self h]
  rfl
theorem rd_set_far {x : List Int} {s j : Nat} (h : s ≠ j) (v : Int) : rd (x.set s v) (j : Int) = rd x (j : Int) := by
  rw [rd_nat, rd_nat, List.getD_eq_getElem?_getD, List.getElem?_set_ne h, List.getD_eq_getElem?_getD]
theorem cnt_l1 {T : List Int} (hT : T.length ≤ 10) {s : Nat} (hs : s < 2 ^ T.length) (hne : s ≠ 2 ^ T.length - 1) {x : List Int} (hx : x.length = 2 ^ T.length) (hc : ∀ j, s < j → j < 2 ^ T.length → rd x (j : Int) = cnt T j) :
    ∀ (d i k : Nat), i + d = T.length → spec_liCounts.l1 (k + d + 1) (x.set s (upto T (T.length - pc T.length s - 1) s i)) (s : Int) T (T.length : Int) (i : Int) T = spec_liCounts.l0 k (x.set s (cnt T s)) ((s : Int) - 1) T
  | 0, i, k, hi => by
    have hp := pc_lt hs hne
    have h2 : 2 ^ T.length ≤ 2 ^ 10 := Nat.pow_le_pow_right (by decide) hT
    rw [spec_liCounts.l1, if_neg (by omega), w64 (by omega) (by omega)]
    obtain rfl : i = T.length := by omega
    unfold cnt
    rw [show T.length - pc T.length s = (T.length - pc T.length s - 1) + 1 by omega, ext_succ]
    rfl
  | d + 1, i, k, hi => by
    have hp := pc_lt hs hne
    have h2 : 2 ^ T.length ≤ 2 ^ 10 := Nat.pow_le_pow_right (by decide) hT
    have ih := cnt_l1 hT hs hne hx hc d (i + 1) k (by omega)
    have e : (i : Int) + 1 = ((i + 1 : Nat) : Int) := by omega
    rw [show k + (d + 1) + 1 = (k + d + 1) + 1 by omega, spec_liCounts.l1, if_pos (by omega), if_pos (by omega), if_pos (by omega), poIn_nat s i (by omega), Option.bind_some, w64 (x := (i : Int) + 1) (by omega) (by omega), e]
    rw [upto_succ] at ih
    cases hb : s.testBit i with
    | true =>
      rw [if_pos rfl]
      have hz : part T (T.length - pc T.length s - 1) s i = [] := by unfold part cand; rw [hb]; rfl
      rw [hz] at ih
      simpa using ih
    | false =>
      rw [if_neg (by decide)]
      by_cases hz : Go.bits .andNot .i64 (rd T (i : Int)) (s : Int) = 0
      · have hq := or_gt hb
        have hl := or_lt hs (show i < T.length by omega)
        have hpp : part T (T.length - pc T.length s - 1) s i = (ext T (T.length - pc T.length s - 1) (s ||| 2 ^ i)).map ((i : Int) :: ·) := by unfold part cand; rw [hb, hz]; rfl
        have hcc : ((part T (T.length - pc T.length s - 1) s i).length : Int) = cnt T (s ||| 2 ^ i) := by
          rw [hpp, List.length_map]
          unfold cnt
          rw [pc_or (show i < T.length by omega) hb, Nat.sub_sub]
        rw [if_pos hz, if_pos (by omega), if_pos (by rw [List.length_set, hx]; omega), or_bit (by omega) (by omega), if_pos (by omega), if_pos (by rw [List.length_set, hx]; omega)]
        have hu := upto_le hT (m := T.length - pc T.length s - 1) s (i := i) (by omega) (by omega)
        have hu2 := upto_le hT (m := T.length - pc T.length s - 1) s (i := i + 1) (by omega) (by omega)
        have hu0 : 0 ≤ upto T (T.length - pc T.length s - 1) s i := Int.natCast_nonneg _
        rw [rd_set_same (by omega), rd_set_far (by omega), hc _ hq hl, Int.toNat_natCast, List.set_set, ← hcc]
        rw [upto_succ] at hu2
        rw [w64 (by omega) (by omega)]
        exact ih
      · rw [if_neg hz]
        have hpp : part T (T.length - pc T.length s - 1) s i = [] := by
          unfold part cand
          rw [hb, beq_eq_false_iff_ne.2 hz]
          rfl
        rw [hpp] at ih
        simpa using ih
def cnts (T : List Int) : List Int := (List.range (2 ^ T.length)).map (cnt T)
theorem cnts_length (T : List Int) : (cnts T).length = 2 ^ T.length := by simp [cnts]
theorem rd_cnts {T : List Int} {j : Nat} (h : j < 2 ^ T.length) : rd (cnts T) (j : Int) = cnt T j := by
  rw [rd_nat, List.getD_eq_getElem?_getD]
  simp [cnts, h]
theorem rd_tail {T : List Int} {s j : Nat} (hs : s ≤ j) (h : j < 2 ^ T.length) : rd (List.replicate s 0 ++ (cnts T).drop s) (j : Int) = cnt T j := by
  rw [rd_nat, List.getD_eq_getElem?_getD, List.getElem?_append_right (by rw [List.length_replicate]; exact hs), List.length_replicate, List.getElem?_drop, show s + (j - s) = j by omega]
  simp [cnts, h]
theorem tail_set {T : List Int} {s : Nat} (h : s < 2 ^ T.length) (v : Int) : (List.replicate (s + 1) 0 ++ (cnts T).drop (s + 1)).set s v = List.replicate s 0 ++ v :: (cnts T).drop (s + 1) := by
  rw [List.replicate_succ', List.append_assoc, List.set_append_right _ _ (by simp)]
  simp
theorem tail_cnt {T : List Int} {s : Nat} (h : s < 2 ^ T.length) : (cnts T).drop s = cnt T s :: (cnts T).drop (s + 1) := by
  rw [List.drop_eq_getElem_cons (by rw [cnts_length]; exact h)]
  simp [cnts]
theorem cnt_l0 {T : List Int} (hT : T.length ≤ 10) : ∀ (s k : Nat), s < 2 ^ T.length → (T.length + 2) * s < k → spec_liCounts.l0 k (List.replicate s 0 ++ (cnts T).drop s) ((s : Int) - 1) T = some (cnts T)
  | 0, k, hs, hk => by
    obtain ⟨k, rfl⟩ : ∃ m, k = m + 1 := ⟨k - 1, by omega⟩
    rw [spec_liCounts.l0, if_neg (by omega)]
    simp
  | s + 1, k, hs, hk => by
    rw [Nat.mul_add, Nat.mul_one] at hk
    obtain ⟨k, rfl⟩ : ∃ m, k = (m + T.length + 1) + 1 := ⟨k - T.length - 2, by omega⟩
    rw [spec_liCounts.l0, if_pos (by omega), show ((s + 1 : Nat) : Int) - 1 = (s : Int) by omega]
    have hz : upto T (T.length - pc T.length s - 1) s 0 = 0 := rfl
    have h0 : (List.replicate (s + 1) 0 ++ (cnts T).drop (s + 1)).set s 0 = List.replicate (s + 1) 0 ++ (cnts T).drop (s + 1) := by
      rw [tail_set (by omega), List.replicate_succ', List.append_assoc]
      rfl
    have h1 := cnt_l1 hT (s := s) (by omega) (by omega) (x := List.replicate (s + 1) 0 ++ (cnts T).drop (s + 1)) (by rw [List.length_append, List.length_replicate, List.length_drop, cnts_length]; omega) (fun j hj hl => rd_tail hj hl) T.length 0 k (by omega)
    rw [hz, h0, tail_set (by omega), ← tail_cnt (by omega)] at h1
    exact h1.trans (cnt_l0 hT s k (by omega) (by omega))
theorem liCounts_eq {T : List Int} (hT : T.length ≤ 10) (k : Nat) (hk : 12500 ≤ k) : spec_liCounts.f k T = some (cnts T) := by
  have h2 : 2 ^ T.length ≤ 2 ^ 10 := Nat.pow_le_pow_right (by decide) hT
  have h3 : 0 < 2 ^ T.length := Nat.pow_pos (by decide)
  have e2 : (2 : Int) ^ T.length = ((2 ^ T.length : Nat) : Int) := by simp
  unfold spec_liCounts.f
  rw [shl_one _ (by omega), e2]
  generalize hN : 2 ^ T.length = N at h2 h3
  rw [if_pos (by omega), Int.toNat_natCast, if_pos (by omega), Option.bind_some, w64 (by omega) (by omega), if_pos (by omega), List.length_replicate, if_pos (by omega), w64 (by omega) (by omega), show ((N : Int) - 1).toNat = N - 1 by omega, show (N : Int) - 2 = ((N - 1 : Nat) : Int) - 1 by omega]
  have h4 := cnt_l0 hT (N - 1) k (by omega) (by
    have : (T.length + 2) * (N - 1) ≤ 12 * 1023 := Nat.mul_le_mul (by omega) (by omega)
    omega)
  rw [tail_cnt (s := N - 1) (by omega), List.drop_of_length_le (by rw [cnts_length]; omega)] at h4
  have h5 : cnt T (N - 1) = 1 := by
    unfold cnt
    rw [← hN, pc_full, Nat.sub_self]
    rfl
  rw [h5] at h4
  rw [← h4]
  congr 1
  obtain ⟨M, rfl⟩ : ∃ M, N = M + 1 := ⟨N - 1, by omega⟩
  rw [Nat.add_sub_cancel, List.replicate_succ', List.set_append_right _ _ (by simp)]
  simp

/-! ### The r-th word -/
theorem with_eq {T : List Int} (hT : T.length ≤ 10) : ∀ (m : Nat) (w : List Int) (s r k : Nat) (e : List Int), w.length + m = T.length → pc T.length s = w.length → s < 2 ^ T.length → (ext T m s)[r]? = some e → 24 * m + 2 ≤ k →
    spec_liWith.l0 k (cnts T) (r : Int) w (s : Int) T = some (w ++ e)
  | 0, w, s, r, k, e, hm, hp, hs, he, hk => by
    obtain ⟨k, rfl⟩ : ∃ m, k = m + 1 := ⟨k - 1, by omega⟩
    rw [spec_liWith.l0, if_neg (by omega)]
    have hr : r = 0 := by
      have := (List.getElem?_eq_some_iff.1 he).1
      simp [ext] at this
      exact this
    subst hr
    simp [ext] at he
    subst he
    rw [List.append_nil]
  | m + 1, w, s, r, k, e, hm, hp, hs, he, hk => by
    obtain ⟨k, rfl⟩ : ∃ m, k = m + 1 := ⟨k - 1, by omega⟩
    have h2 : 2 ^ T.length ≤ 2 ^ 10 := Nat.pow_le_pow_right (by decide) hT
    have ih := with_eq hT m
    have go : ∀ (d i r k : Nat), i + d = T.length → ((List.range' i d).flatMap (part T m s))[r]? = some e → 24 * m + 3 + 2 * d ≤ k →
        spec_liWith.l1 k (cnts T) (r : Int) w (s : Int) T (T.length : Int) (i : Int) T = some (w ++ e) := by
      intro d
      induction d with
      | zero => intro i r k _ h _; simp at h
      | succ d ihd =>
        intro i r k hi h hk
        obtain ⟨k, rfl⟩ : ∃ m, k = (m + 1) + 1 := ⟨k - 2, by omega⟩
        have hrb := (List.getElem?_eq_some_iff.1 h).1
        have hfl := flat_le (part T m s) (10 ^ m) (List.range' i (d + 1)) (fun a _ => part_le hT m s a)
        have hmm : (d + 1) * 10 ^ m ≤ 10 * 10 ^ 10 := Nat.mul_le_mul (by omega) (Nat.pow_le_pow_right (by decide) (by omega))
        rw [List.length_range'] at hfl
        rw [List.range'_succ, List.flatMap_cons] at h
        have e1 : (i : Int) + 1 = ((i + 1 : Nat) : Int) := by omega
        have skip : ∀ r : Nat, ((List.range' (i + 1) d).flatMap (part T m s))[r]? = some e → spec_liWith.l1 k (cnts T) (r : Int) w (s : Int) T (T.length : Int) (wrap64 ((i : Int) + 1)) T = some (w ++ e) := by
          intro r h
          rw [w64 (by omega) (by omega), e1]
          exact ihd (i + 1) r k (by omega) h (by omega)
        rw [spec_liWith.l1, if_pos (by omega), if_pos (by omega), if_pos (by omega), poIn_nat s i (by omega), Option.bind_some]
        cases hb : s.testBit i with
        | true =>
          have hz : part T m s i = [] := by unfold part cand; rw [hb]; rfl
          rw [hz, List.nil_append] at h
          rw [if_pos rfl, spec_liWith.j2, if_pos rfl]
          exact skip r h
        | false =>
          rw [if_neg (by decide), spec_liWith.j2]
          by_cases hz : Go.bits .andNot .i64 (rd T (i : Int)) (s : Int) = 0
          · have hq := or_gt hb
            have hl := or_lt hs (show i < T.length by omega)
            have hpp : part T m s i = (ext T m (s ||| 2 ^ i)).map ((i : Int) :: ·) := by unfold part cand; rw [hb, hz]; rfl
            have hcc : cnt T (s ||| 2 ^ i) = ((part T m s i).length : Int) := by
              rw [hpp, List.length_map]
              unfold cnt
              rw [pc_or (show i < T.length by omega) hb, hp, show T.length - (w.length + 1) = m by omega]
            have hple := part_le hT m s i
            have hp10 : 10 ^ m ≤ 10 ^ 10 := Nat.pow_le_pow_right (by decide) (by omega)
            rw [if_neg (by rw [hz]; decide), if_pos (by omega), or_bit (by omega) (by omega), if_pos (by omega), if_pos (by rw [cnts_length]; omega), rd_cnts hl, hcc]
            by_cases hr : r < (part T m s i).length
            · rw [if_pos (by omega), if_pos (by omega)]
              rw [List.getElem?_append_left hr, hpp, List.getElem?_map, Option.map_eq_some_iff] at h
              obtain ⟨e', he', rfl⟩ := h
              rw [ih (w ++ [(i : Int)]) (s ||| 2 ^ i) r k e' (by simp; omega) (by rw [pc_or (show i < T.length by omega) hb, hp]; simp) hl he' (by omega)]
              simp
            · rw [if_neg (by omega)]
              rw [List.getElem?_append_right (by omega)] at h
              rw [w64 (x := (r : Int) - _) (by omega) (by omega), show (r : Int) - ((part T m s i).length : Int) = ((r - (part T m s i).length : Nat) : Int) by omega]
              exact skip _ h
          · have hpp : part T m s i = [] := by
              unfold part cand
              rw [hb, beq_eq_false_iff_ne.2 hz]
              rfl
            rw [hpp, List.nil_append] at h
            rw [if_pos (by simp [hz])]
            exact skip r h
    rw [spec_liWith.l0, if_pos (by omega)]
    exact go T.length 0 r k (by omega) (by rw [← List.range_eq_range']; exact he) (by omega)
theorem liWith_eq {T : List Int} (hT : T.length ≤ 10) {r : Nat} {e : List Int} (h : (ext T T.length 0)[r]? = some e) (k : Nat) (hk : 242 ≤ k) : spec_liWith.f k T (cnts T) (r : Int) = some e := by
  have := with_eq hT T.length [] 0 r k e (by simp) (pc_zero _) (Nat.pow_pos (by decide)) h (by omega)
  simpa [spec_liWith.f] using this
theorem rd_cnts0 {T : List Int} : rd (cnts T) 0 = ((ext T T.length 0).length : Int) := by
  have := rd_cnts (T := T) (j := 0) (Nat.pow_pos (by decide))
  rw [show (0 : Int) = ((0 : Nat) : Int) from rfl, this]
  unfold cnt
  rw [pc_zero, Nat.sub_zero]
theorem all_l0 {T : List Int} (hT : T.length ≤ 10) (hl : (ext T T.length 0).length ≤ 500) : ∀ (d r k : Nat), r + d = (ext T T.length 0).length → 243 + d ≤ k →
    spec_liAll.l0 k (cnts T) ((ext T T.length 0).take r) (r : Int) T = some (ext T T.length 0, true)
  | 0, r, k, hr, hk => by
    obtain ⟨k, rfl⟩ : ∃ m, k = m + 1 := ⟨k - 1, by omega⟩
    have h3 : 0 < 2 ^ T.length := Nat.pow_pos (by decide)
    rw [spec_liAll.l0, if_pos (by rw [cnts_length]; omega), rd_cnts0, if_neg (by omega), List.take_of_length_le (by omega)]
  | d + 1, r, k, hr, hk => by
    obtain ⟨k, rfl⟩ : ∃ m, k = m + 1 := ⟨k - 1, by omega⟩
    have h3 : 0 < 2 ^ T.length := Nat.pow_pos (by decide)
    have hlt : r < (ext T T.length 0).length := by omega
    have e1 : (r : Int) + 1 = ((r + 1 : Nat) : Int) := by omega
    rw [spec_liAll.l0, if_pos (by rw [cnts_length]; omega), rd_cnts0, if_pos (by omega), liWith_eq hT (List.getElem?_eq_getElem hlt) k (by omega), Option.bind_some, if_pos (by rw [List.length_take]; omega), w64 (by omega) (by omega), e1, List.take_append_getElem hlt]
    exact all_l0 hT hl d (r + 1) k (by omega) (by omega)
theorem liAll_eq {T : List Int} (hT : T.length ≤ 10) (k : Nat) (hk : 12500 ≤ k) : spec_liAll.f k T = some (if (ext T T.length 0).length ≤ 500 then (ext T T.length 0, true) else ([], false)) := by
  have h3 : 0 < 2 ^ T.length := Nat.pow_pos (by decide)
  unfold spec_liAll.f
  rw [liCounts_eq hT k hk, Option.bind_some, if_pos (by rw [cnts_length]; omega), rd_cnts0]
  by_cases h : (ext T T.length 0).length ≤ 500
  · rw [if_neg (by omega), if_pos h]
    exact all_l0 hT h (ext T T.length 0).length 0 k (by omega) (by omega)
  · rw [if_pos (by omega), if_neg h]
/-! ### The rank of a word; the orbits' stabilizers -/
theorem flat_get {α : Type} (g : Nat → List α) : ∀ (d a r : Nat) (e : α), ((List.range' a d).flatMap g)[r]? = some e → ∃ i r', a ≤ i ∧ i < a + d ∧ r = ((List.range' a (i - a)).flatMap g).length + r' ∧ (g i)[r']? = some e
  | 0, a, r, e, h => by simp at h
  | d + 1, a, r, e, h => by
    rw [List.range'_succ, List.flatMap_cons] at h
    by_cases hr : r < (g a).length
    · rw [List.getElem?_append_left hr] at h
      exact ⟨a, r, Nat.le_refl _, by omega, by simp, h⟩
    · rw [List.getElem?_append_right (by omega)] at h
      obtain ⟨i, r', h1, h2, h3, h4⟩ := flat_get g d (a + 1) _ e h
      refine ⟨i, r', by omega, by omega, ?_, h4⟩
      rw [show i - a = (i - (a + 1)) + 1 by omega, List.range'_succ, List.flatMap_cons, List.length_append]
      omega
theorem rank_l1 {T : List Int} (hT : T.length ≤ 10) {s i : Nat} (hs : s < 2 ^ T.length) (hi : i < T.length) {m : Nat} (hm : T.length = pc T.length s + m + 1) (word : List Int) (p : Nat) (acc : Int) (ha : 0 ≤ acc) (hb : acc ≤ 1000000000000) : ∀ (d j k : Nat), j + d = i →
    spec_RankLinear.l1 (k + d + 1) (cnts T) (acc + upto T m s j) (s : Int) (i : Int) (j : Int) word (word.length : Int) (p : Int) T = spec_RankLinear.l0 k (cnts T) (acc + upto T m s i) ((s ||| 2 ^ i : Nat) : Int) word (word.length : Int) (wrap64 ((p : Int) + 1)) T
  | 0, j, k, hj => by
    have h2 : 2 ^ T.length ≤ 2 ^ 10 := Nat.pow_le_pow_right (by decide) hT
    obtain rfl : j = i := by omega
    rw [spec_RankLinear.l1, if_neg (by omega), if_pos (by omega), or_bit (by omega) (by omega)]
  | d + 1, j, k, hj => by
    have h2 : 2 ^ T.length ≤ 2 ^ 10 := Nat.pow_le_pow_right (by decide) hT
    have ih := rank_l1 hT hs hi hm word p acc ha hb d (j + 1) k (by omega)
    have e : (j : Int) + 1 = ((j + 1 : Nat) : Int) := by omega
    rw [show k + (d + 1) + 1 = (k + d + 1) + 1 by omega, spec_RankLinear.l1, if_pos (by omega), poIn_nat s j (by omega), Option.bind_some, w64 (x := (j : Int) + 1) (by omega) (by omega), e]
    rw [upto_succ] at ih
    cases hb2 : s.testBit j with
    | true =>
      have hz : part T m s j = [] := by unfold part cand; rw [hb2]; rfl
      rw [hz] at ih
      rw [if_pos rfl]
      simpa using ih
    | false =>
      rw [if_neg (by decide), if_pos (by omega), if_pos (by omega)]
      by_cases hz : Go.bits .andNot .i64 (rd T (j : Int)) (s : Int) = 0
      · have hl := or_lt hs (show j < T.length by omega)
        have hpp : part T m s j = (ext T m (s ||| 2 ^ j)).map ((j : Int) :: ·) := by unfold part cand; rw [hb2, hz]; rfl
        have hcc : cnt T (s ||| 2 ^ j) = ((part T m s j).length : Int) := by
          rw [hpp, List.length_map]
          unfold cnt
          rw [pc_or (show j < T.length by omega) hb2, show T.length - (pc T.length s + 1) = m by omega]
        have hu := upto_le hT (m := m) s (i := j) (by omega) (by omega)
        have hu2 := upto_le hT (m := m) s (i := j + 1) (by omega) (by omega)
        have hu0 : 0 ≤ upto T m s j := Int.natCast_nonneg _
        rw [upto_succ] at hu2
        rw [if_pos hz, or_bit (by omega) (by omega), if_pos (by omega), if_pos (by rw [cnts_length]; omega), rd_cnts hl, hcc, w64 (by omega) (by omega), Int.add_assoc]
        exact ih
      · have hpp : part T m s j = [] := by
          unfold part cand
          rw [hb2, beq_eq_false_iff_ne.2 hz]
          rfl
        rw [hpp] at ih
        rw [if_neg hz]
        simpa using ih
theorem rank_l0 {T : List Int} (hT : T.length ≤ 10) : ∀ (m : Nat) (w e : List Int) (s r k : Nat) (acc : Int), w.length + m = T.length → pc T.length s = w.length → s < 2 ^ T.length → (ext T m s)[r]? = some e → 0 ≤ acc → acc ≤ 100000000000 * (10 - m : Int) → 12 * m < k →
    spec_RankLinear.l0 k (cnts T) acc (s : Int) (w ++ e) ((w ++ e).length : Int) (w.length : Int) T = some (acc + (r : Int), true)
  | 0, w, e, s, r, k, acc, hm, hp, hs, he, h0, h1, hk => by
    obtain ⟨k, rfl⟩ : ∃ m, k = m + 1 := ⟨k - 1, by omega⟩
    have hr : r = 0 := by
      have := (List.getElem?_eq_some_iff.1 he).1
      simp [ext] at this
      exact this
    subst hr
    simp [ext] at he
    subst he
    rw [spec_RankLinear.l0, if_neg (by simp)]
    simp
  | m + 1, w, e, s, r, k, acc, hm, hp, hs, he, h0, h1, hk => by
    have h2 : 2 ^ T.length ≤ 2 ^ 10 := Nat.pow_le_pow_right (by decide) hT
    rw [ext_succ, List.range_eq_range'] at he
    obtain ⟨i, r', hi0, hi, hr, hg⟩ := flat_get _ _ _ _ _ he
    rw [Nat.zero_add] at hi
    rw [Nat.sub_zero] at hr
    have hcand : cand T s i = true := by
      by_cases hc : cand T s i = true
      · exact hc
      · unfold part at hg; rw [if_neg hc] at hg; simp at hg
    unfold part at hg
    rw [if_pos hcand, List.getElem?_map, Option.map_eq_some_iff] at hg
    obtain ⟨e', he', rfl⟩ := hg
    have hb : s.testBit i = false := by
      unfold cand at hcand
      simp only [Bool.and_eq_true] at hcand
      simpa using hcand.1
    obtain ⟨k, rfl⟩ : ∃ k', k = (k' + i + 1) + 1 := ⟨k - i - 2, by omega⟩
    have hu := upto_le hT (m := m) s (i := i) (by omega) (by omega)
    have hu0 : 0 ≤ upto T m s i := Int.natCast_nonneg _
    have hup : upto T m s i = (((List.range' 0 i).flatMap (part T m s)).length : Int) := by unfold upto; rw [List.range_eq_range']
    have ih := rank_l0 hT m (w ++ [(i : Int)]) e' (s ||| 2 ^ i) r' k (acc + upto T m s i) (by simp; omega) (by rw [pc_or hi hb, hp]; simp) (or_lt hs hi) he' (by omega) (by omega) (by omega)
    have hlen : (w.length : Int) < ((w ++ (i : Int) :: e').length : Int) := by simp; omega
    have hget : rd (w ++ (i : Int) :: e') (w.length : Int) = (i : Int) := by rw [rd_nat, List.getD_eq_getElem?_getD]; simp
    rw [spec_RankLinear.l0, if_pos hlen, if_pos (by omega), if_pos hlen, hget]
    have h3 := rank_l1 hT hs hi (m := m) (by omega) (w ++ (i : Int) :: e') w.length acc h0 (by omega) i 0 k (by omega)
    have hz : upto T m s 0 = 0 := rfl
    rw [hz, Int.add_zero] at h3
    refine h3.trans ?_
    rw [w64 (by omega) (by omega)]
    rw [show w ++ (i : Int) :: e' = w ++ [(i : Int)] ++ e' by simp, show (w.length : Int) + 1 = ((w ++ [(i : Int)]).length : Int) by simp, ih, hr]
    congr 2
    omega
theorem rank_eq {T : List Int} (hT : T.length ≤ 10) {k r : Nat} {w : List Int} (hk : 12600 ≤ k) (hg : spec_poGood.f k T = some true) (hi : spec_liIs.f k T w = some true) (h : (ext T T.length 0)[r]? = some w) : spec_RankLinear.f k T w = some ((r : Int), true) := by
  obtain ⟨k, rfl⟩ : ∃ m, k = m + 1 := ⟨k - 1, by omega⟩
  unfold spec_RankLinear.f
  rw [hg, Option.bind_some, if_pos rfl, hi, Option.bind_some, Bool.not_true, spec_RankLinear.j0, if_neg (by decide), liCounts_eq hT k (by omega), Option.bind_some]
  have := rank_l0 hT T.length [] w 0 r k 0 (by simp) (pc_zero _) (Nat.pow_pos (by decide)) h (by omega) (by omega) (by omega)
  simpa using this
/-- Where a word stands. -/
def pos (w : List Int) : List (List Int) → Nat → Option Nat
  | [], _ => none
  | x :: r, j => if x = w then some j else pos w r (j + 1)
theorem pos_get {w : List Int} : ∀ {A : List (List Int)} {j i : Nat}, pos w A j = some i → j ≤ i ∧ A[i - j]? = some w
  | [], j, i, h => by cases h
  | x :: r, j, i, h => by
    unfold pos at h
    split at h
    · rename_i hx
      obtain rfl := Option.some.inj h
      exact ⟨Nat.le_refl _, by simp [hx]⟩
    · obtain ⟨h1, h2⟩ := pos_get h
      refine ⟨by omega, ?_⟩
      rw [show i - j = (i - (j + 1)) + 1 by omega, List.getElem?_cons_succ]
      exact h2
def inn2 (k : Nat) (T : List Int) (A : List (List Int)) (x : List Int) : Nat → List Int → Nat → List Int → Option (Nat × List Int)
  | 0, _, _, _ => none
  | q + 1, now, n, seen => (if n = 0 then some false else spec_l1Same.f k now x).bind fun b => if b = true then some (n, seen) else if n < 1099511627776 ∧ seen.length < 1099511627776 ∧ spec_liIs.f k T now = some true then (pos now A 0).bind fun p => (spec_liPromote.f k T now 1).bind fun z => inn2 k T A x q z (n + 1) (seen ++ [(p : Int)]) else none
theorem inn2_eq {T : List Int} (hT : T.length ≤ 10) {k : Nat} (hk : 12600 ≤ k) (hg : spec_poGood.f k T = some true) (x : List Int) : ∀ (q : Nat) (now : List Int) (n : Nat) (seen : List Int) (r : Nat × List Int), inn2 k T (ext T T.length 0) x q now n seen = some r → spec_PromotionStabilizers.inn k T x q now n seen = some r
  | 0, _, _, _, _, h => by cases h
  | q + 1, now, n, seen, r, h => by
    obtain ⟨b, hb, h⟩ := Option.bind_eq_some_iff.mp h
    refine Option.bind_eq_some_iff.mpr ⟨b, hb, ?_⟩
    split at h
    · rename_i hbt
      rw [if_pos hbt]
      exact h
    · rename_i hbf
      rw [if_neg hbf]
      split at h
      case isFalse => cases h
      rename_i hc
      obtain ⟨p, hp, h⟩ := Option.bind_eq_some_iff.mp h
      obtain ⟨z, hz, h⟩ := Option.bind_eq_some_iff.mp h
      have h1 := (pos_get hp).2
      rw [if_pos ⟨hc.1, hc.2.1⟩, rank_eq hT hk hg hc.2.2 h1, Option.bind_some, hz, Option.bind_some]
      exact inn2_eq hT hk hg x q z (n + 1) _ r h
def out2 (k : Nat) (T : List Int) (A : List (List Int)) (m : Int) : List (List Int) → Nat → List Int → List Int → Option (List Int)
  | [], _, out, _ => some out
  | x :: r, j, out, seen => (spec_l1Has.f k seen (j : Int)).bind fun b => if b = true then out2 k T A m r (j + 1) out seen else (inn2 k T A x k x 0 seen).bind fun p => if 0 < p.1 then (spec_svPut.f k out (wrap64 (Int.tdiv m (p.1 : Int)))).bind fun o => out2 k T A m r (j + 1) o p.2 else none
theorem out2_eq {T : List Int} (hT : T.length ≤ 10) {k : Nat} (hk : 12600 ≤ k) (hg : spec_poGood.f k T = some true) (m : Int) : ∀ (xs : List (List Int)) (j : Nat) (out seen r : List Int), out2 k T (ext T T.length 0) m xs j out seen = some r → spec_PromotionStabilizers.out k T m xs j out seen = some r
  | [], _, _, _, _, h => h
  | x :: xs, j, out, seen, r, h => by
    obtain ⟨b, hb, h⟩ := Option.bind_eq_some_iff.mp h
    refine Option.bind_eq_some_iff.mpr ⟨b, hb, ?_⟩
    split at h
    · rename_i hbt
      rw [if_pos hbt]
      exact out2_eq hT hk hg m xs (j + 1) out seen r h
    · rename_i hbf
      rw [if_neg hbf]
      obtain ⟨p, hp, h⟩ := Option.bind_eq_some_iff.mp h
      refine Option.bind_eq_some_iff.mpr ⟨p, inn2_eq hT hk hg x k x 0 seen p hp, ?_⟩
      split at h
      case isFalse => cases h
      rename_i h0
      rw [if_pos h0]
      obtain ⟨o, ho, h⟩ := Option.bind_eq_some_iff.mp h
      exact Option.bind_eq_some_iff.mpr ⟨o, ho, out2_eq hT hk hg m xs (j + 1) o p.2 r h⟩
def restOk (S : List Int) : Bool := decide (laws_eqIntS.f 20000 S S = some true) && decide (laws_eqIntS.f 19999 S S = some true) && match laws_markIntS.f 19999 S 1 with
  | none => false
  | some p => decide (laws_heldIntS.f 19999 p.2 1 = some p.1) && decide (laws_heldIntS.f 19998 p.2 1 = some p.1) && decide (¬ p.1 < 0)
theorem law_of {a b : Int} {S : List Int} {c : Bool} (hs : spec_PromotionStabilizers.f 20000 a b = some (S, c)) (h1 : impl_PromotionStabilizers.f 20000 a b = some (S, c)) (h2 : impl_PromotionStabilizers.f 19999 a b = some (S, c)) (hr : restOk S = true) : laws_FnExactPromotionStabilizers.f 20000 a b = some true := by
  unfold restOk at hr
  simp only [Bool.and_eq_true, decide_eq_true_eq] at hr
  obtain ⟨⟨r1, r2⟩, r3⟩ := hr
  cases hm : laws_markIntS.f 19999 S 1 with
  | none => rw [hm] at r3; cases r3
  | some p =>
    rw [hm] at r3
    simp only [Bool.and_eq_true, decide_eq_true_eq] at r3
    obtain ⟨⟨r4, r5⟩, r6⟩ := r3
    have e : (c != c) = false := by cases c <;> rfl
    unfold laws_FnExactPromotionStabilizers.f
    rw [hs, Option.bind_some, h1, Option.bind_some, r1, Option.bind_some, if_pos rfl, e, show (20000 : Nat) = 19999 + 1 from rfl, laws_FnExactPromotionStabilizers.j0, if_neg (by decide), hm, Option.bind_some, r4, Option.bind_some, if_neg r6, if_pos rfl, h2, Option.bind_some, r2, Option.bind_some, if_pos rfl, e, show (19999 : Nat) = 19998 + 1 from rfl, laws_FnExactPromotionStabilizers.j1, if_neg (by decide), r5, Option.bind_some, if_neg r6, if_pos rfl]
def shapeOk (a b : Int) (T S : List Int) : Bool :=
  decide (spec_shSides.f a b = some true) && decide (spec_poRectangle.f 20000 a b = some T) && decide (spec_poGood.f 20000 T = some true) && decide (T.length ≤ 10) && decide ((ext T T.length 0).length ≤ 500) &&
  decide (out2 20000 T (ext T T.length 0) (wrap64 (a * b)) (ext T T.length 0) 0 [] [] = some S) && restOk S
theorem shape {a b : Int} {T S : List Int} (h : shapeOk a b T S = true) (h1 : impl_PromotionStabilizers.f 20000 a b = some (S, true)) (h2 : impl_PromotionStabilizers.f 19999 a b = some (S, true)) : laws_FnExactPromotionStabilizers.f 20000 a b = some true := by
  unfold shapeOk at h
  simp only [Bool.and_eq_true, decide_eq_true_eq] at h
  obtain ⟨⟨⟨⟨⟨⟨s1, s2⟩, s3⟩, s4⟩, s5⟩, s6⟩, s7⟩ := h
  refine law_of ?_ h1 h2 s7
  unfold spec_PromotionStabilizers.f
  rw [s1, Option.bind_some, if_pos rfl, s2, Option.bind_some, liAll_eq s4 20000 (by omega), Option.bind_some, if_pos s5]
  rw [if_pos (by show (ext T T.length 0).length < 1099511627776; omega), out2_eq s4 (by omega) s3 _ _ _ _ _ _ s6, Option.bind_some]
theorem outside (a b : Int) (h : ¬ ((1 ≤ a ∧ a ≤ 10) ∧ (1 ≤ b ∧ b ≤ 10) ∧ wrap64 (a * b) ≤ 10)) : laws_FnExactPromotionStabilizers.f 20000 a b = some true := by
  have hs : spec_shSides.f a b = some false := by
    unfold spec_shSides.f spec_l1In.f
    by_cases h1 : a ≥ 1 <;> by_cases h2 : a ≤ 10 <;> by_cases h3 : b ≥ 1 <;> by_cases h4 : b ≤ 10 <;> simp [h1, h2, h3, h4] <;> omega
  have hi : impl_areSides.f a b 10 = some false := by
    unfold impl_areSides.f impl_within.f
    by_cases h1 : 1 ≤ a <;> by_cases h2 : a ≤ 10 <;> by_cases h3 : 1 ≤ b <;> by_cases h4 : b ≤ 10 <;> simp [h1, h2, h3, h4] <;> omega
  have e1 : spec_PromotionStabilizers.f 20000 a b = some ([], false) := by
    unfold spec_PromotionStabilizers.f
    rw [hs]
    rfl
  have e2 : ∀ k, impl_PromotionStabilizers.f k a b = some ([], false) := by
    intro k
    unfold impl_PromotionStabilizers.f
    rw [hi]
    rfl
  exact law_of e1 (e2 _) (e2 _) (by decide +kernel)
end Go.Proofs.Ytbmdbeboegdcaaa.Pure
