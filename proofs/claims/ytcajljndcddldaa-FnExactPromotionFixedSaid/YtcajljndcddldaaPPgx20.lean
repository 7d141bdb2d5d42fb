-- Written for this claim by wip/gprint.py, out of the translation and of hand-written parts.
import Derived.Test.YtcajljndcddldaaPPgx0
import Derived.Test.YtcajljndcddldaaPPgx9
import Derived.Test.YtcajljndcddldaaPPgx10
import Derived.Test.YtcajljndcddldaaPPgx11
import Derived.Test.YtcajljndcddldaaPPgx17
import Derived.Test.YtcajljndcddldaaPPgx18
import Derived.Test.YtcajljndcddldaaPPgx19
namespace Go.Proofs.Ytcajljndcddldaa.PPg
open Go.RowKit Go.Proofs.YtcajljndcddldaaW.PrintWords Go.Proofs.YtcajljndcddldaaW.PrintLast Go.Proofs.YtcajljndcddldaaW.PrintMore
attribute [local go_sem] max2_int min2_int max_two min_two max_three min_three max_four min_four   -- for this text's walks alone
set_option linter.unusedVariables false
set_option linter.unusedSimpArgs false

/-! ### impl_linearCycles: by hand -/
theorem sl_elem {α : Type} {d : Kd α} {e : Nat} {w : World} {A : Option Addr} {xs : List (List α)} (h : Kd.C (Kd.slice e d) w A xs.length xs) {i : Nat} (hi : i < xs.length) : ∃ ad Ai ci, A = some ad ∧ w.cell? (ad.add i) = some (.slice Ai xs[i].length ci) ∧ xs[i].length ≤ ci ∧ Kd.C d w Ai xs[i].length xs[i] := by
  obtain ⟨ad, hA, hc⟩ := h.2.2 (by omega)
  obtain ⟨c, hcl, ⟨Ai, ci, rfl, h1, h2⟩, hcc⟩ := hc i xs[i] (List.getElem?_eq_getElem hi)
  exact ⟨ad, Ai, ci, hA, by simpa [Kd.slice] using hcc 0 _ rfl, h1, h2⟩
theorem promoted_lineFn {A : Option Addr} {c : Nat} {l : List Int} {w0 : World} (hr : Kd.C (Kd.int .i64) w0 A l.length l) (hc : l.length ≤ c) : LineFn (.func (.func 124) #[.agg #[.slice A l.length c]] #[]) (impl_Poset_promoted.f l) w0 := by
  intro W x y hb hF
  refine ⟨_, _, _, _, rfl, Try.func124, by kernel_rfl, by kernel_rfl, ?_⟩
  exact (impl_Poset_promoted.calls A c l x y W (Kd.C_below hr hb) hc hF).mono (fun e w' h => ⟨h.1, impl_Poset_promoted.length hF, h.2⟩)
def impl_linearCycles.lines : List (List Int) → List (List Int) → Option (List (List Int))
  | [], out => some out
  | x :: r, out => (impl_lineOf.f x).bind fun y => if out.length < 1099511627776 then impl_linearCycles.lines r (out ++ [y]) else none
def impl_linearCycles.f (k : Nat) (l : List Int) : Option (List (List (List Int)) × Bool) := (impl_few.f k l).bind fun p => if p.2 = true then (if p.1.length < 1099511627776 then (impl_linearCycles.lines p.1 []).bind fun ls => (impl_cycles_line.f k (impl_Poset_promoted.f l) ls).bind fun cs => some (cs, true) else none) else some ([], false)
set_option maxRecDepth 100000 in
set_option maxHeartbeats 8000000 in
theorem impl_linearCycles.calls (k : Nat) (A0 : Option Addr) (c0 : Nat) (l0 : List Int) (r1 : List (List (List Int))) (r2 : Bool) (w : World) (hr0 : Kd.C (Kd.int .i64) w A0 l0.length l0) (hc0 : l0.length ≤ c0) (h : impl_linearCycles.f k l0 = some (r1, r2)) :
    Calls Try.prog 100 #[.agg #[.slice A0 l0.length c0]] w fun e w' => ∃ v0_ : Value, e = .returned (.tuple #[v0_, .bool r2]) ∧ Kd.R (Kd.slice 102 Kd.line) 109 w' w.heap.size (fun _ => True) v0_ r1 ∧ Below w.heap.size w w' := by
  have hu29 := Try.underlying29
  have hu102 := Try.underlying102
  unfold impl_linearCycles.f at h
  replace h := Option.bind_eq_some_iff.mp h
  obtain ⟨⟨all, b⟩, hb, h⟩ := h
  have HFEW := Aside0.mk hb
  have HR := Aside0.mk hr0
  have HC := Aside0.mk hc0
  have HH := Aside0.mk h
  clear hb hr0 hc0 h
  go_enter Try.func100, Try.ntmps100
  go_wp2_with fail
  have BG := Aside0.mk (line_new w (.cells #[.slice A0 l0.length c0] 29))
  have HB := Aside0.mk (below_alloc (Below.refl w.heap.size w) (.cells #[.slice A0 l0.length c0] 29))
  generalize w.alloc (.cells #[.slice A0 l0.length c0] 29) = w1 at BG HB ⊢
  generalize hgp : w.heap.size = gp at BG ⊢
  have HGP := Aside0.mk hgp
  clear hgp
  refine (impl_few.calls k _ _ l0 _ _ _ (Kd.C_below HR.out HB.out) HC.out HFEW.out).mono ?_
  rintro e w2 ⟨vo, rfl, hS, hb2⟩
  obtain ⟨Ao, co, rfl, hco, hCo⟩ := Kd.S_reads hS
  have HCO := Aside0.mk hCo
  have HCC := Aside0.mk hco
  replace BG := Aside0.mk (blk_below BG.out hb2)
  replace HB := Aside0.mk (below_step HB.out hb2)
  have hz1 : w2.cell? ⟨gp, 0, none⟩ = some (.slice A0 l0.length c0) := (blk_cell BG.out 0).trans rfl
  clear hb2 hS hCo hco
  have h := HH.out
  clear HH
  cases b with
  | false =>
    simp only [Bool.false_eq_true, if_false, Option.some.injEq, Prod.mk.injEq] at h
    obtain ⟨rfl, rfl⟩ := h
    go_wp2_with fail
    go_ret2
    exact ⟨_, rfl, Kd.R_nil _ _ _ _ _, HB.out⟩
  | true =>
    simp only [if_true] at h
    split at h
    case isFalse => cases h
    rename_i hal
    replace h := Option.bind_eq_some_iff.mp h
    obtain ⟨ls, hls, h⟩ := h
    replace h := Option.bind_eq_some_iff.mp h
    obtain ⟨cs, hcs, h⟩ := h
    simp only [Option.some.injEq, Prod.mk.injEq] at h
    obtain ⟨rfl, rfl⟩ := h
    have HAL := Aside0.mk hal
    have HLS := Aside0.mk hls
    have HCS := Aside0.mk hcs
    clear hal hls hcs
    go_wp2_with fail
    have BO := Aside0.mk (nil_row (d := Kd.line) (e := 102) (Nat.le_refl w2.heap.size) (line_new w2 (.cells #[] 102)))
    have HB2 := Aside0.mk (below_alloc (Below.refl w2.heap.size w2) (.cells #[] 102))
    clear hz1
    generalize w2.alloc (.cells #[] 102) = W at BO HB2 ⊢
    have BO2 := Aside0.mk (Kd.R_mono BO.out (ok' := fun _ => True) (fun _ _ => trivial))
    clear BO
    generalize hgo : w2.heap.size = go at BO2 ⊢
    replace BO2 : Aside0 (Kd.R Kd.line 102 W w2.heap.size (fun _ => True) (.slice (some ⟨go, 0, none⟩) 0 0) []) := by rw [hgo]; exact BO2
    clear hgo
    go_loopg [6, 19] all.length (fun kq v6 v19 w' => ∃ (i : Int) (j : Nat) (out : List (List Int)), v19 = .int .i64 i ∧ Aside0 (i = (j : Int) ∧ j ≤ all.length ∧ kq = all.length - j) ∧ Aside0 (impl_linearCycles.lines (all.drop j) out = some ls)
      ∧ Aside0 (Kd.R Kd.line 102 w' w2.heap.size (fun _ => True) v6 out) ∧ Aside0 (Below w2.heap.size w2 w'))
    case atStart => exact ⟨0, 0, [], rfl, ⟨rfl, Nat.zero_le _, rfl⟩, ⟨by rw [List.drop_zero]; exact HLS.out⟩, BO2, HB2⟩
    case round =>
      clear HLS BO2 HB2
      obtain ⟨i, j, out, rfl, HJ, HF, HO, HB2⟩ := hrel
      by_cases cj : i < (all.length : Int)
      · have cjb : decide (i < (all.length : Int)) = true := decide_eq_true cj
        have p1 : (0 ≤ i) = True := by have := HJ.out; simp; omega
        have hjl : j < all.length := by have := HJ.out; omega
        have hds := HF.out
        rw [List.drop_eq_getElem_cons hjl] at hds
        obtain ⟨ad, Ai, ci, rfl, hxc, hxl, hxC⟩ := sl_elem (Kd.C_below HCO.out HB2.out) hjl
        have hij : i.toNat = j := by have := HJ.out; omega
        generalize all[j] = x at hds hxc hxl hxC
        rw [← hij] at hxc
        simp only [impl_linearCycles.lines] at hds
        replace hds := Option.bind_eq_some_iff.mp hds
        obtain ⟨y, hy, hds⟩ := hds
        split at hds
        case isFalse => cases hds
        rename_i hol
        have HJL := Aside0.mk hjl
        have HXL := Aside0.mk hxl
        have HXC := Aside0.mk hxC
        have HY := Aside0.mk hy
        have HOL := Aside0.mk hol
        have HF2 := Aside0.mk hds
        have HS0 := Aside0.mk HB2.out.size
        clear hij hxl hxC hy hol hds HF hjl
        replace cj := eq_true cj
        go_wp2_with (first
          | ((with_reducible refine gate_callee (f := 122) rfl ?_); refine goesL_ (some 25) rfl rfl Try.func122 (by kernel_rfl) rfl #[.slice Ai x.length ci] rfl (by (try simp only [List.map_toArray, List.map_cons, List.map_nil]); first | done | rfl) ?_; refine (impl_lineOf.calls Ai ci x y _ HXC.out HXL.out HY.out).mono ?_; rintro e w3 ⟨rfl, hyl, hb⟩; refine ⟨_, rfl, ?_⟩; have HYL := Aside0.mk hyl; replace HO := Aside0.mk (Kd.R_below HO.out hb); replace HB2 := Aside0.mk (below_step HB2.out hb); replace HS0 := Aside0.mk HB2.out.size; clear hb hyl hxc)
          | ((with_reducible refine gate_ (.buildSlice 109 1 #[(0, .tmp 25)]) rfl ?_); refine line_build 109 102 (.tmp 25) rfl rfl rfl HYL.out Try.underlying109 lineZ ?_)
          | ((with_reducible refine gate_builtin (b := .append) (xs := #[.tmp 23, .tmp 26]) rfl ?_); at_builtin; refine Kd.R_append Kd.line (w0 := w2) w2.heap.size rfl (.tmp 23) (.tmp 26) 109 102 (lineV (List.replicate 10 0)) 80 rfl Try.underlying109 lineInfo rfl (by decide) (by decide) u6 out y (y.map (Value.int .i64)) (fun _ => True) (fun _ => False) rfl rfl ⟨rfl, HYL.out⟩ (fun _ h_ => h_.elim) (fun _ _ => trivial) HO.out HB2.out HS0.out (by have := HOL.out; omega) ?_; intro v1 w4 hR1 hB1 _ _; replace HO := Aside0.mk hR1; replace HB2 := Aside0.mk hB1; clear hR1 hB1))
        go_roundg (all.length - (j + 1))
        case measure => have := HJ.out; have := HJL.out; omega
        case rel => exact ⟨wrap64 (i + 1), j + 1, _, rfl, ⟨by have := HJ.out.1; have := HJL.out; have := HAL.out; unfold wrap64; omega, HJL.out, rfl⟩, HF2, HO, HB2⟩
      · have cjb : decide (i < (all.length : Int)) = false := decide_eq_false cj
        have hr : out = ls := by
          have h1 := HJ.out
          have h2 := HF.out
          rw [show j = all.length by omega, List.drop_length] at h2
          exact Option.some.inj h2
        subst hr
        clear cj
        obtain ⟨Aq, cq, rfl, hcq, hCq⟩ := Kd.R_reads HO.out
        have HCQ := Aside0.mk hCq
        have HCQ2 := Aside0.mk hcq
        have hz2 : wr.cell? ⟨gp, 0, none⟩ = some (.slice A0 l0.length c0) := (blk_cell (blk_below BG.out HB2.out) 0).trans rfl
        have HB3 := Aside0.mk (below_step HB.out HB2.out)
        clear hcq hCq
        go_wp2_with fail
        refine (impl_cycles_line.calls k Aq cq out _ _ _ _ HCQ.out HCQ2.out (promoted_lineFn (Kd.C_below HR.out HB3.out) HC.out) HCS.out).mono ?_
        rintro e w5 ⟨v5, rfl, hR5, hb5⟩
        clear hz2
        go_wp2_with fail
        go_ret2
        exact ⟨_, rfl, Kd.R_lower hR5 HB3.out.size, below_step HB3.out hb5⟩


/-! ### impl_lengths_line: by hand -/
def impl_lengths_line.f (l : List (List (List Int))) : Option (List Int) := if l.length < 1099511627776 then some (l.map fun x => (x.length : Int)) else none
theorem intInfo_ : (Try.prog.info? 3).map (fun i => (i.zero, i.size, i.bytes)) = some (some (.int .i64 0), 1, 8) := by kernel_rfl
set_option maxRecDepth 100000 in
set_option maxHeartbeats 8000000 in
theorem impl_lengths_line.calls (A0 : Option Addr) (c0 : Nat) (l0 : List (List (List Int))) (r : List Int) (w : World) (hr0 : Kd.C (Kd.slice 102 Kd.line) w A0 l0.length l0) (hc0 : l0.length ≤ c0) (h : impl_lengths_line.f l0 = some r) :
    Calls Try.prog 101 #[.slice A0 l0.length c0] w fun e w' => ∃ v0_ : Value, e = .returned v0_ ∧ Kd.R (Kd.int .i64) 3 w' w.heap.size (fun _ => True) v0_ r ∧ Below w.heap.size w w' := by
  unfold impl_lengths_line.f at h
  split at h
  case isFalse => cases h
  rename_i hl
  have HL := Aside0.mk hl
  have HH := Aside0.mk (Option.some.inj h)
  have HR := Aside0.mk hr0
  have HC := Aside0.mk hc0
  clear hl h hr0 hc0
  go_enter Try.func101, Try.ntmps101
  go_wp2_with fail
  have BO := Aside0.mk (nil_row (d := Kd.int .i64) (e := 3) (Nat.le_refl w.heap.size) (line_new w (.cells #[] 3)))
  have HB := Aside0.mk (below_alloc (Below.refl w.heap.size w) (.cells #[] 3))
  generalize w.alloc (.cells #[] 3) = W at BO HB ⊢
  have BO2 := Aside0.mk (Kd.R_mono BO.out (ok' := fun _ => True) (fun _ _ => trivial))
  clear BO
  generalize hgo : w.heap.size = go at BO2 ⊢
  replace BO2 : Aside0 (Kd.R (Kd.int .i64) 3 W w.heap.size (fun _ => True) (.slice (some ⟨go, 0, none⟩) 0 0) []) := by rw [hgo]; exact BO2
  clear hgo
  go_loopg [3, 9] l0.length (fun kq v3 v9 w' => ∃ (i : Int) (j : Nat) (out : List Int), v9 = .int .i64 i ∧ Aside0 (i = (j : Int) ∧ j ≤ l0.length ∧ kq = l0.length - j) ∧ Aside0 (out.length = j ∧ out ++ (l0.drop j).map (fun x => (x.length : Int)) = r)
    ∧ Aside0 (Kd.R (Kd.int .i64) 3 w' w.heap.size (fun _ => True) v3 out) ∧ Aside0 (Below w.heap.size w w'))
  case atStart => exact ⟨0, 0, [], rfl, ⟨rfl, Nat.zero_le _, rfl⟩, ⟨rfl, by rw [List.drop_zero]; exact HH.out⟩, BO2, HB⟩
  case round =>
    clear HH BO2 HB
    obtain ⟨i, j, out, rfl, HJ, HF, HO, HB⟩ := hrel
    by_cases cj : i < (l0.length : Int)
    · have cjb : decide (i < (l0.length : Int)) = true := decide_eq_true cj
      have p1 : (0 ≤ i) = True := by have := HJ.out; simp; omega
      have hjl : j < l0.length := by have := HJ.out; omega
      have hds := HF.out.2
      rw [List.drop_eq_getElem_cons hjl] at hds
      obtain ⟨ad, Ai, ci, rfl, hxc, hxl, hxC⟩ := sl_elem (Kd.C_below HR.out HB.out) hjl
      have hij : i.toNat = j := by have := HJ.out; omega
      generalize l0[j] = x at hds hxc hxl hxC
      rw [← hij] at hxc
      rw [List.map_cons] at hds
      have HJL := Aside0.mk hjl
      have HF2 := Aside0.mk (show (out ++ [(x.length : Int)]) ++ (l0.drop (j + 1)).map (fun x => (x.length : Int)) = r by rw [List.append_assoc]; exact hds)
      have HS0 := Aside0.mk HB.out.size
      clear hij hxl hxC hds hjl
      replace cj := eq_true cj
      go_wp2_with (first
        | ((with_reducible refine gate_builtin (b := .append) (xs := #[.tmp 13, .tmp 16]) rfl ?_); at_builtin; refine Kd.R_append (Kd.int .i64) (w0 := w) w.heap.size rfl (.tmp 13) (.tmp 16) 22 3 (.int .i64 0) 8 rfl Try.underlying22 intInfo_ rfl (by decide) (by decide) u3 out (x.length : Int) [.int .i64 (x.length : Int)] (fun _ => True) (fun _ => False) rfl rfl rfl (fun _ h_ => h_.elim) (fun _ _ => trivial) HO.out HB.out HS0.out (by have := HF.out.1; have := HJL.out; have := HL.out; omega) ?_; intro v1 w4 hR1 hB1 _ _; replace HO := Aside0.mk hR1; replace HB := Aside0.mk hB1; clear hR1 hB1 hxc))
      go_roundg (l0.length - (j + 1))
      case measure => have := HJ.out; have := HJL.out; omega
      case rel => exact ⟨wrap64 (i + 1), j + 1, _, rfl, ⟨by have := HJ.out.1; have := HJL.out; have := HL.out; unfold wrap64; omega, HJL.out, rfl⟩, ⟨by rw [List.length_append, HF.out.1]; rfl, HF2.out⟩, HO, HB⟩
    · have cjb : decide (i < (l0.length : Int)) = false := decide_eq_false cj
      have hr : out = r := by
        have h1 := HJ.out
        have h2 := HF.out.2
        rw [show j = l0.length by omega, List.drop_length, List.map_nil, List.append_nil] at h2
        exact h2
      subst hr
      clear cj
      go_wp2_with fail
      go_ret
      exact ⟨_, rfl, HO.out, HB.out⟩


/-! ### impl_promotionLengths: by hand -/
def impl_promotionLengths.f (k : Nat) (a b : Int) : Option (List Int) := (impl_rectangle.f k a b).bind fun p => (impl_linearCycles.f k p).bind fun q => impl_lengths_line.f q.1
set_option maxRecDepth 100000 in
set_option maxHeartbeats 8000000 in
theorem impl_promotionLengths.calls (k : Nat) (a0 : Int) (a1 : Int) (r : List Int) (w : World) (h : impl_promotionLengths.f k a0 a1 = some r) :
    Calls Try.prog 63 #[.int .i64 a0, .int .i64 a1] w fun e w' => ∃ v0_ : Value, e = .returned v0_ ∧ Kd.R (Kd.int .i64) 3 w' w.heap.size (fun _ => True) v0_ r ∧ Below w.heap.size w w' := by
  unfold impl_promotionLengths.f at h
  obtain ⟨p, hp, h⟩ := Option.bind_eq_some_iff.mp h
  obtain ⟨⟨q, b⟩, hq, h⟩ := Option.bind_eq_some_iff.mp h
  have H1 := Aside0.mk hp
  have H2 := Aside0.mk hq
  have H3 := Aside0.mk h
  clear hp hq h
  go_enter Try.func63, Try.ntmps63
  go_wp2_with fail
  refine (impl_rectangle.calls k a0 a1 p w H1.out).mono ?_
  rintro e w1 ⟨vp, rfl, hR1, hb1⟩
  obtain ⟨Ap, cp, rfl, hcp, hCp⟩ := Kd.R_reads hR1
  have HCP := Aside0.mk hCp
  have HCC := Aside0.mk hcp
  have HB1 := Aside0.mk hb1
  clear hR1 hCp hcp hb1
  go_wp2_with fail
  refine (impl_linearCycles.calls k Ap cp p q b w1 HCP.out HCC.out H2.out).mono ?_
  rintro e w2 ⟨vq, rfl, hR2, hb2⟩
  obtain ⟨Aq, cq, rfl, hcq, hCq⟩ := Kd.R_reads hR2
  have HCQ := Aside0.mk hCq
  have HCC2 := Aside0.mk hcq
  have HB2 := Aside0.mk (below_step HB1.out hb2)
  clear hR2 hCq hcq hb2
  go_wp2_with fail
  refine (impl_lengths_line.calls Aq cq q r w2 HCQ.out HCC2.out H3.out).mono ?_
  rintro e w3 ⟨vr, rfl, hR3, hb3⟩
  go_wp2_with fail
  go_ret
  exact ⟨_, rfl, Kd.R_lower hR3 HB2.out.size, below_step HB2.out hb3⟩

/-! ### impl_PromotionFixed: function 22 -/
def impl_PromotionFixed.j0 : Nat → Int → Int → Int → Bool → Option (Int × Bool)
  | 0, _, _, _, _ => none
  | k + 1, x0, x1, x2, x16 => if x16 = true then (some (0, false)) else ((impl_promotionLengths.f k x0 x1).bind fun t308 => ((impl_fixed.f k t308 x2).bind fun t311 => (some (t311, true))))
def impl_PromotionFixed.f (k : Nat) (a0 : Int) (a1 : Int) (a2 : Int) : Option (Int × Bool) := (impl_areSides.f a0 a1 10).bind fun t306 => (if t306 = true then ((impl_within.f a2 0 60).bind fun t307 => (impl_PromotionFixed.j0 k a0 a1 a2 (!t307))) else (impl_PromotionFixed.j0 k a0 a1 a2 true))
set_option maxHeartbeats 8000000 in
set_option maxRecDepth 100000 in
theorem impl_PromotionFixed.calls (k : Nat) (a0 : Int) (a1 : Int) (a2 : Int) (r1 : Int) (r2 : Bool) (w : World) (h : impl_PromotionFixed.f k a0 a1 a2 = some (r1, r2)) :
    Calls Try.prog 22 #[.int .i64 a0, .int .i64 a1, .int .i64 a2] w fun e w' => e = .returned (.tuple #[.int .i64 r1, .bool r2]) ∧ Below w.heap.size w w' := by
  have HB := Aside0.mk (Below.refl w.heap.size w)
  have H : ((impl_areSides.f a0 a1 10).bind fun t306 => (if t306 = true then ((impl_within.f a2 0 60).bind fun t307 => (impl_PromotionFixed.j0 k a0 a1 a2 (!t307))) else (impl_PromotionFixed.j0 k a0 a1 a2 true))) = some (r1, r2) := h
  clear h
  have HC4 := Aside0.mk H
  clear H
  go_enter Try.func22, Try.ntmps22
  go_upto_region 1 with (fail)
  go_cut [16] (fun v16 wc => ∃ (kq : Nat) (x16_3 : Bool), v16 = .bool x16_3 ∧ Aside0 (impl_PromotionFixed.j0 kq a0 a1 a2 x16_3 = some (r1, r2)) ∧ Aside0 (kq ≤ k) ∧ Aside0 (Below w.heap.size w wc))
  case first =>
    have H := HC4.out
    clear HC4
    replace H := Option.bind_eq_some_iff.mp H
    obtain ⟨t306, A50, H⟩ := H
    replace H : (if t306 = true then ((impl_within.f a2 0 60).bind fun t307 => (impl_PromotionFixed.j0 k a0 a1 a2 (!t307))) else (impl_PromotionFixed.j0 k a0 a1 a2 true)) = some (r1, r2) := H
    have A5 := Aside0.mk A50
    clear A50
    by_cases c6 : t306 = true
    · subst c6
      have H1 : ((impl_within.f a2 0 60).bind fun t307 => (impl_PromotionFixed.j0 k a0 a1 a2 (!t307))) = some (r1, r2) := by rw [if_pos rfl] at H; exact H
      clear H
      have H := H1
      clear H1
      replace H := Option.bind_eq_some_iff.mp H
      obtain ⟨t307, A70, H⟩ := H
      replace H : (impl_PromotionFixed.j0 k a0 a1 a2 (!t307)) = some (r1, r2) := H
      have A7 := Aside0.mk A70
      clear A70
      have H' := Aside0.mk H
      clear H
      go_wp2_with (first | ((with_reducible refine gate_callee (f := 57) rfl ?_); refine goesL_ (some 10) rfl rfl Try.func57 (by kernel_rfl) rfl #[.int .i64 a0, .int .i64 a1, .int .i64 10] rfl (by (try simp only [List.map_toArray, List.map_cons, List.map_nil]); first | done | rfl | (simp only [List.length_drop, List.length_take]; rfl)) ?_; (with_reducible refine (impl_areSides.calls a0 a1 10 true _ A5.out).mono ?_); rintro e w' ⟨rfl, ⟨nd, rfl⟩⟩; refine ⟨_, rfl, ?_⟩) | (go_at_call 51; (with_reducible refine (impl_within.calls a2 0 60 t307 _ A7.out).mono ?_); rintro e w' ⟨rfl, ⟨nd, rfl⟩⟩))
      go_meet
      case rel => exact ⟨_, (!t307), (by first | rfl | (simp; done) | (simp [*]; done)), H', ⟨by first | omega | exact Nat.le_refl _⟩, ⟨by repeat (first | (with_reducible first | exact HB.out | apply below_alloc | apply pw_below_drewN | apply below_drew1) | exact HB.out)⟩⟩
    · replace c6 := Bool.eq_false_iff.mpr c6
      subst c6
      have H1 : (impl_PromotionFixed.j0 k a0 a1 a2 true) = some (r1, r2) := by rw [if_neg (show ¬ (false = true) by decide)] at H; exact H
      clear H
      have H := H1
      clear H1
      have H' := Aside0.mk H
      clear H
      go_wp2_with (first | ((with_reducible refine gate_callee (f := 57) rfl ?_); refine goesL_ (some 10) rfl rfl Try.func57 (by kernel_rfl) rfl #[.int .i64 a0, .int .i64 a1, .int .i64 10] rfl (by (try simp only [List.map_toArray, List.map_cons, List.map_nil]); first | done | rfl | (simp only [List.length_drop, List.length_take]; rfl)) ?_; (with_reducible refine (impl_areSides.calls a0 a1 10 false _ A5.out).mono ?_); rintro e w' ⟨rfl, ⟨nd, rfl⟩⟩; refine ⟨_, rfl, ?_⟩))
      go_meet
      case rel => exact ⟨_, (true), (by first | rfl | (simp; done) | (simp [*]; done)), H', ⟨by first | omega | exact Nat.le_refl _⟩, ⟨by repeat (first | (with_reducible first | exact HB.out | apply below_alloc | apply pw_below_drewN | apply below_drew1) | exact HB.out)⟩⟩
  case rest =>
    clear HC4
    try clear c2
    try clear p2
    try clear c5
    try clear c6
    obtain ⟨kq, x16_3, rfl, HA, HJ3, HB⟩ := hcut
    cases kq with
    | zero => exact absurd HA.out (by simp [impl_PromotionFixed.j0])
    | succ kj3 =>
      have H := HA.out
      clear HA
      simp only [impl_PromotionFixed.j0] at H
      by_cases c8 : x16_3 = true
      · subst c8
        have H1 : (some (0, false)) = some (r1, r2) := by rw [if_pos rfl] at H; exact H
        clear H
        have H := H1
        clear H1
        simp only [Option.some.injEq, Prod.mk.injEq] at H
        obtain ⟨rfl, rfl⟩ := H
        go_wp2
        go_ret2
        exact ⟨by first | rfl | (simp [errW_none, errW_some] <;> rfl) | (simp [*, errW_none, errW_some] <;> rfl), by repeat (first | (with_reducible first | exact HB.out | apply below_alloc | apply pw_below_drewN | apply below_drew1) | exact HB.out)⟩
      · replace c8 := Bool.eq_false_iff.mpr c8
        subst c8
        have H1 : ((impl_promotionLengths.f kj3 a0 a1).bind fun t308 => ((impl_fixed.f kj3 t308 a2).bind fun t311 => (some (t311, true)))) = some (r1, r2) := by rw [if_neg (show ¬ (false = true) by decide)] at H; exact H
        clear H
        have H := H1
        clear H1
        replace H := Option.bind_eq_some_iff.mp H
        obtain ⟨t308, A90, H⟩ := H
        replace H : ((impl_fixed.f kj3 t308 a2).bind fun t311 => (some (t311, true))) = some (r1, r2) := H
        have A9 := Aside0.mk A90
        clear A90
        replace H := Option.bind_eq_some_iff.mp H
        obtain ⟨t311, A100, H⟩ := H
        replace H : (some (t311, true)) = some (r1, r2) := H
        have A10 := Aside0.mk A100
        clear A100
        simp only [Option.some.injEq, Prod.mk.injEq] at H
        obtain ⟨rfl, rfl⟩ := H
        go_wp2_with (first | ((with_reducible refine gate_callee (f := 63) rfl ?_); refine goesL_ (some 19) rfl rfl Try.func63 (by kernel_rfl) rfl #[.int .i64 a0, .int .i64 a1] rfl (by (try simp only [List.map_toArray, List.map_cons, List.map_nil]); first | done | rfl | (simp only [List.length_drop, List.length_take]; rfl)) ?_; (with_reducible refine (impl_promotionLengths.calls kj3 a0 a1 t308 _ A9.out).mono ?_); rintro e w11 ⟨v309, rfl, ho0, hb⟩; refine ⟨_, rfl, ?_⟩; have n0_ := Aside0.mk (Kd.R_lower ho0 (below_size (by repeat (first | (with_reducible first | exact HB.out | apply below_alloc | apply pw_below_drewN | apply below_drew1) | exact HB.out)))); have n1_ := Aside0.mk (below_step (by repeat (first | (with_reducible first | exact HB.out | apply below_alloc | apply pw_below_drewN | apply below_drew1) | exact HB.out)) hb); clear HB; have HO310 := n0_; have HB := n1_; clear n0_ n1_; (try clear hb); (try clear hb2); (try clear hk); (try clear hi); (try clear ho0); obtain ⟨Ao12, co12, eo12⟩ := Kd.R_slice HO310.out; subst eo12) | ((with_reducible refine gate_callee (f := 62) rfl ?_); refine goesL_ (some 21) rfl rfl Try.func62 (by kernel_rfl) rfl #[.slice Ao12 t308.length co12, .int .i64 a2] rfl (by (try simp only [List.map_toArray, List.map_cons, List.map_nil]); first | done | rfl | (simp only [List.length_drop, List.length_take]; rfl)) ?_; (with_reducible refine (impl_fixed.calls kj3 _ _ t308 a2 t311 _ ?side1 ?side2 A10.out).mono ?_); (case side1 => repeat (first | exact (Kd.R_reads' HO310.out).2.2 | (with_reducible refine Kd.C_alloc ?_ _) | (with_reducible refine Kd.C_drewN ?_ _) | (with_reducible refine Kd.C_drew ?_))); (case side2 => exact (Kd.R_reads' HO310.out).2.1); rintro e w' ⟨rfl, ⟨nd, rfl⟩⟩; refine ⟨_, rfl, ?_⟩))
        go_ret2
        exact ⟨by first | rfl | (simp [errW_none, errW_some] <;> rfl) | (simp [*, errW_none, errW_some] <;> rfl), by repeat (first | (with_reducible first | exact HB.out | apply below_alloc | apply pw_below_drewN | apply below_drew1) | exact HB.out)⟩

/-! ### laws_FnExactPromotionFixed: function 5 -/
def laws_FnExactPromotionFixed.f (k : Nat) (a0 : Int) (a1 : Int) (a2 : Int) : Option (Bool) := (spec_PromotionFixed.f k a0 a1 a2).bind fun bt312 => ((impl_PromotionFixed.f k a0 a1 a2).bind fun bt314 => (if bt314.1 = bt312.1 then (if (bt314.2 != bt312.2) = true then (some false) else (some true)) else (some false)))
set_option maxHeartbeats 8000000 in
set_option maxRecDepth 100000 in
theorem laws_FnExactPromotionFixed.calls (k : Nat) (a0 : Int) (a1 : Int) (a2 : Int) (r : Bool) (w : World) (hrt : r = true) (h : laws_FnExactPromotionFixed.f k a0 a1 a2 = some r) :
    Calls Try.prog 5 #[.int .i64 a0, .int .i64 a1, .int .i64 a2] w fun e w' => e = .returned (.bool r) ∧ Below w.heap.size w w' := by
  have HRT := Aside0.mk hrt
  clear hrt
  have HB := Aside0.mk (Below.refl w.heap.size w)
  have H : ((spec_PromotionFixed.f k a0 a1 a2).bind fun bt312 => ((impl_PromotionFixed.f k a0 a1 a2).bind fun bt314 => (if bt314.1 = bt312.1 then (if (bt314.2 != bt312.2) = true then (some false) else (some true)) else (some false)))) = some r := h
  clear h
  replace H := Option.bind_eq_some_iff.mp H
  obtain ⟨⟨t312, t313⟩, A40, H⟩ := H
  replace H : ((impl_PromotionFixed.f k a0 a1 a2).bind fun bt314 => (if bt314.1 = t312 then (if (bt314.2 != t313) = true then (some false) else (some true)) else (some false))) = some r := H
  have A4 := Aside0.mk A40
  clear A40
  replace H := Option.bind_eq_some_iff.mp H
  obtain ⟨⟨t314, t315⟩, A50, H⟩ := H
  replace H : (if t314 = t312 then (if (t315 != t313) = true then (some false) else (some true)) else (some false)) = some r := H
  have A5 := Aside0.mk A50
  clear A50
  by_cases c6 : t314 = t312
  · rw [if_pos c6] at H
    have c6b0 : (t314 == t312) = true := beq_iff_eq.mpr c6
    have c6b1 : (t314 != t312) = false := bne_eq_false_iff_eq.mpr c6
    clear c6
    by_cases c7 : (t315 != t313) = true
    · rw [if_pos c7] at H
      have c7b0 : (t315 != t313) = true := c7
      (try (have c7b1 : decide (t315 = t313) = false := by simpa using c7))
      (try (have c7b2 : (t315 == t313) = false := by simpa using c7))
      (try (have c7b3 : ¬ (t315 = t313) := by simpa using c7))
      clear c7
      exact absurd ((Option.some.inj H).trans HRT.out) (by decide)
    · rw [if_neg c7] at H
      have c7b0 : (t315 != t313) = false := by simpa using c7
      (try (have c7b1 : decide (t315 = t313) = true := by simpa using c7))
      (try (have c7b2 : (t315 == t313) = true := by simpa using c7))
      clear c7
      obtain rfl := Option.some.inj H
      go_enter Try.func5, Try.ntmps5
      go_wp2_with (first | ((with_reducible refine gate_callee (f := 21) rfl ?_); refine goesL_ (some 15) rfl rfl Try.func21 (by kernel_rfl) rfl #[.int .i64 a0, .int .i64 a1, .int .i64 a2] rfl (by (try simp only [List.map_toArray, List.map_cons, List.map_nil]); first | done | rfl | (simp only [List.length_drop, List.length_take]; rfl)) ?_; (with_reducible refine (spec_PromotionFixed.calls k a0 a1 a2 t312 t313 _ A4.out).mono ?_); rintro e w8 ⟨rfl, hb⟩; refine ⟨_, rfl, ?_⟩; have n0_ := Aside0.mk (below_step (by repeat (first | (with_reducible first | exact HB.out | apply below_alloc | apply pw_below_drewN | apply below_drew1) | exact HB.out)) hb); clear HB; have HB := n0_; clear n0_; (try clear hb); (try clear hb2); (try clear hk); (try clear hi)) | ((with_reducible refine gate_callee (f := 22) rfl ?_); refine goesL_ (some 22) rfl rfl Try.func22 (by kernel_rfl) rfl #[.int .i64 a0, .int .i64 a1, .int .i64 a2] rfl (by (try simp only [List.map_toArray, List.map_cons, List.map_nil]); first | done | rfl | (simp only [List.length_drop, List.length_take]; rfl)) ?_; (with_reducible refine (impl_PromotionFixed.calls k a0 a1 a2 t314 t315 _ A5.out).mono ?_); rintro e w9 ⟨rfl, hb⟩; refine ⟨_, rfl, ?_⟩; have n0_ := Aside0.mk (below_step (by repeat (first | (with_reducible first | exact HB.out | apply below_alloc | apply pw_below_drewN | apply below_drew1) | exact HB.out)) hb); clear HB; have HB := n0_; clear n0_; (try clear hb); (try clear hb2); (try clear hk); (try clear hi)))
      go_ret
      exact ⟨by first | rfl | (simp [errW_none, errW_some] <;> rfl) | (simp [*, errW_none, errW_some] <;> rfl), by repeat (first | (with_reducible first | exact HB.out | apply below_alloc | apply pw_below_drewN | apply below_drew1) | exact HB.out)⟩
  · rw [if_neg c6] at H
    have c6b0 : (t314 == t312) = false := beq_eq_false_iff_ne.mpr c6
    have c6b1 : (t314 != t312) = true := bne_iff_ne.mpr c6
    exact absurd ((Option.some.inj H).trans HRT.out) (by decide)

/-- THE ONE PURE STATEMENT of laws_FnExactPromotionFixed: yours. -/
def laws_FnExactPromotionFixed.Pure : Prop := ∀ (a0 : Int) (a1 : Int) (a2 : Int), (Lit.int .i64 a0).wf = true → (Lit.int .i64 a1).wf = true → (Lit.int .i64 a2).wf = true → ∃ k, laws_FnExactPromotionFixed.f k a0 a1 a2 = some true
theorem laws_FnExactPromotionFixed.walk (P : laws_FnExactPromotionFixed.Pure) (a0 : Int) (a1 : Int) (a2 : Int) (w : World) (w0 : (Lit.int .i64 a0).wf = true) (w1 : (Lit.int .i64 a1).wf = true) (w2 : (Lit.int .i64 a2).wf = true) :
    Calls Try.prog 5 #[.int .i64 a0, .int .i64 a1, .int .i64 a2] w fun e w' => e = .returned (.bool true) ∧ Below w.heap.size w w' := by
  obtain ⟨k, h⟩ := P a0 a1 a2 w0 w1 w2
  refine (laws_FnExactPromotionFixed.calls k a0 a1 a2 true w rfl h).mono ?_
  rintro e w' ⟨rfl, hd⟩
  exact ⟨rfl, hd⟩

end Go.Proofs.Ytcajljndcddldaa.PPg
