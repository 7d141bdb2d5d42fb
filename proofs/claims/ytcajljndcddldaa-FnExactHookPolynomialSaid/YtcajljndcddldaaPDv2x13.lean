-- Written for this claim by wip/gprint.py, out of the translation and of hand-written parts.
import Derived.Test.YtcajljndcddldaaPDv2x0
import Derived.Test.YtcajljndcddldaaPDv2x6
import Derived.Test.YtcajljndcddldaaPDv2x8
import Derived.Test.YtcajljndcddldaaPDv2x12
namespace Go.Proofs.Ytcajljndcddldaa.PDv2
open Go.RowKit Go.Proofs.YtcajljndcddldaaW.PrintWords Go.Proofs.YtcajljndcddldaaW.PrintLast Go.Proofs.YtcajljndcddldaaW.PrintMore
attribute [local go_sem] max2_int min2_int max_two min_two max_three min_three max_four min_four   -- for this text's walks alone
set_option linter.unusedVariables false
set_option linter.unusedSimpArgs false

/-! ### impl_few: by hand -/
theorem blk_new_ (w : World) (o : Obj) : (w.alloc o).heap[w.heap.size]? = some o := by unfold World.alloc; exact Array.getElem?_push_size
theorem blk_alloc_ {w : World} {g : Nat} {o : Obj} (h : w.heap[g]? = some o) (x : Obj) : (w.alloc x).heap[g]? = some o := (below_alloc (Below.refl w.heap.size w) x).block g (blk_lt h) |>.trans h
theorem run_store_fn_ {P : Program} {w : World} (a : Addr) (m : Mode) (fn : Fn) (first captured : Array Value) : (store a (.func fn first captured) m).run P w = stored P w a (.func fn first captured) m := run_store P w a _ m rfl
attribute [local go_sem] run_store_fn_
theorem alloc_size_ (w : World) (o : Obj) : (w.alloc o).heap.size = w.heap.size + 1 := by unfold World.alloc; exact Array.size_push _
theorem few_start {w w3 w4 w5 : World} {gp : Nat} {A : Option Addr} {c : Nat} {l : List Int} {vo vw : Value} (hgp : w3.heap[gp]? = some (.cells #[.slice A l.length c] 29 (0, 0)))
    (hS : Kd.S (Kd.slice 3 (Kd.int .i64)) 22 w4 w.heap.size (fun _ => True) vo []) (hg4 : w3.grownBy w4 none) (hR : Kd.R (Kd.int .i64) 3 w5 w.heap.size (fun _ => True) vw []) (hg5 : w4.grownBy w5 none) (hn5 : ∃ b, vw.ownBlock = some b ∧ w4.heap.size ≤ b) (hB5 : Below w.heap.size w w5) :
    FewSt w (((w5.alloc (.cells #[vo] 26)).alloc (.cells #[vw] 22)).alloc (.cells #[(.func (.func 112) #[] #[.pointer (some ⟨gp, 0, none⟩), .pointer (some ⟨w5.heap.size, 0, none⟩), .pointer (some ⟨w5.heap.size + 1, 0, none⟩), .pointer (some ⟨w5.heap.size + 1 + 1, 0, none⟩)])] 92)) (fun _ => True) gp w5.heap.size (w5.heap.size + 1) (w5.heap.size + 1 + 1) A c l vo vw [] [] := by
  have s1 : (w5.alloc (.cells #[vo] 26)).heap.size = w5.heap.size + 1 := alloc_size_ _ _
  have s2 : ((w5.alloc (.cells #[vo] 26)).alloc (.cells #[vw] 22)).heap.size = w5.heap.size + 1 + 1 := by rw [alloc_size_, alloc_size_]
  have b1 := blk_new_ w5 (.cells #[vo] 26)
  have b2 := blk_new_ (w5.alloc (.cells #[vo] 26)) (.cells #[vw] 22)
  have b3 := blk_new_ ((w5.alloc (.cells #[vo] 26)).alloc (.cells #[vw] 22)) (.cells #[(.func (.func 112) #[] #[.pointer (some ⟨gp, 0, none⟩), .pointer (some ⟨w5.heap.size, 0, none⟩), .pointer (some ⟨w5.heap.size + 1, 0, none⟩), .pointer (some ⟨w5.heap.size + 1 + 1, 0, none⟩)])] 92)
  rw [s1] at b2
  rw [s2] at b3
  have p5 := blk_grown (blk_grown hgp hg4 (by simp)) hg5 (by simp)
  have p8 := blk_alloc_ (blk_alloc_ (blk_alloc_ p5 (.cells #[vo] 26)) (.cells #[vw] 22)) (.cells #[(.func (.func 112) #[] #[.pointer (some ⟨gp, 0, none⟩), .pointer (some ⟨w5.heap.size, 0, none⟩), .pointer (some ⟨w5.heap.size + 1, 0, none⟩), .pointer (some ⟨w5.heap.size + 1 + 1, 0, none⟩)])] 92)
  have hsz := hB5.size
  refine ⟨p8, blk_alloc_ (blk_alloc_ b1 _) _, blk_alloc_ b2 _, b3, ?_, Kd.R_alloc (Kd.R_alloc (Kd.R_alloc hR _) _) _, by omega, by omega, ((hB5.alloc hsz _).alloc (by rw [s1]; omega) _).alloc (by rw [s2]; omega) _, fun _ _ => trivial⟩
  have h5 : Kd.S (Kd.slice 3 (Kd.int .i64)) 22 w5 w.heap.size (fun k => k < w5.heap.size ∧ some k ≠ vw.ownBlock) vo [] := Kd.S_mono (Kd.S_grown (Kd.S_bound hS) hg5 (by simp)) (fun k hk => ⟨Nat.lt_of_lt_of_le hk.2.2.1 hg5.size, fun e => by
    obtain ⟨b, hb, hle⟩ := hn5
    rw [hb] at e
    injection e with e
    have := hk.2.2.1
    omega⟩)
  exact Kd.S_mono (Kd.S_alloc (Kd.S_alloc (Kd.S_alloc h5 _) _) _) (fun k hk => ⟨trivial, by have := hk.1; omega, hk.2⟩)
def impl_few.f (k : Nat) (l : List Int) : Option (List (List Int) × Bool) := (impl_IsPoset.f k l).bind fun b => if b = true then ((impl_Poset_ways.f k l).bind fun ws => if 0 < ws.length then (if 500 < rd ws 0 then some ([], false) else (impl_few_1.f k l 0 [] []).bind fun outs => some (outs, true)) else none) else some ([], false)
theorem impl_few.mono : ∀ l k, LeO (impl_few.f k l) (impl_few.f (k + 1) l) := by
  intro l k r h
  unfold impl_few.f at h ⊢
  obtain ⟨b, hb, h⟩ := Option.bind_eq_some_iff.mp h
  refine Option.bind_eq_some_iff.mpr ⟨b, impl_IsPoset.mono _ _ _ hb, ?_⟩
  split at h
  · rename_i c1
    rw [if_pos c1]
    obtain ⟨ws, hws, h⟩ := Option.bind_eq_some_iff.mp h
    refine Option.bind_eq_some_iff.mpr ⟨ws, impl_Poset_ways.mono _ _ _ hws, ?_⟩
    split at h
    case isFalse => cases h
    rename_i c2
    rw [if_pos c2]
    split at h
    · rename_i c3
      rw [if_pos c3]
      exact h
    · rename_i c3
      rw [if_neg c3]
      obtain ⟨o, ho, h⟩ := Option.bind_eq_some_iff.mp h
      exact Option.bind_eq_some_iff.mpr ⟨o, impl_few_1.mono _ _ _ _ _ _ ho, h⟩
  · rename_i c1
    rw [if_neg c1]
    exact h
set_option maxRecDepth 100000 in
set_option maxHeartbeats 4000000 in
theorem impl_few.calls (k : Nat) (A0_0 : Option Addr) (c0_0 : Nat) (l0_0 : List Int) (r1 : List (List Int)) (r2 : Bool) (w : World) (hr0_0 : Kd.C (Kd.int .i64) w A0_0 l0_0.length l0_0) (hc0_0 : l0_0.length ≤ c0_0) (h : impl_few.f k l0_0 = some (r1, r2)) :
    Calls Try.prog 93 #[.agg #[.slice A0_0 l0_0.length c0_0]] w fun e w' => ∃ v0_ : Value, e = .returned (.tuple #[v0_, .bool r2]) ∧ Kd.S (Kd.slice 3 (Kd.int .i64)) 22 w' w.heap.size (fun _ => True) v0_ r1 ∧ Below w.heap.size w w' := by
  have hu29 := Try.underlying29
  unfold impl_few.f at h
  replace h := Option.bind_eq_some_iff.mp h
  obtain ⟨b, hb, h⟩ := h
  have HB_ := Aside0.mk hb
  have HR := Aside0.mk hr0_0
  have HC := Aside0.mk hc0_0
  clear hb hr0_0 hc0_0
  cases b with
  | false =>
    simp only [Bool.false_eq_true, if_false, Option.some.injEq, Prod.mk.injEq] at h
    obtain ⟨rfl, rfl⟩ := h
    go_enter Try.func93, Try.ntmps93
    go_wp2_with fail
    have BG := Aside0.mk (show (w.alloc (.cells #[.slice A0_0 l0_0.length c0_0] 29)).heap[w.heap.size]? = some (.cells #[.slice A0_0 l0_0.length c0_0] 29 (0, 0)) from blk_new_ _ _)
    have hB0 := Aside0.mk (below_alloc (Below.refl w.heap.size w) (.cells #[.slice A0_0 l0_0.length c0_0] 29))
    generalize w.alloc (.cells #[.slice A0_0 l0_0.length c0_0] 29) = w1 at BG hB0 ⊢
    refine (impl_IsPoset.calls k _ _ l0_0 _ _ (Kd.C_below HR.out hB0.out) HC.out HB_.out).mono ?_
    rintro e w2 ⟨rfl, hb2⟩
    have hB2 := Aside0.mk (below_step hB0.out hb2)
    clear BG hb2 hB0
    go_wp2_with fail
    go_ret2
    exact ⟨_, rfl, Kd.S_nil _ _ _ _ _, hB2.out⟩
  | true =>
    rw [if_pos rfl] at h
    replace h := Option.bind_eq_some_iff.mp h
    obtain ⟨ws, hws, h⟩ := h
    have HW_ := Aside0.mk hws
    split at h
    case isFalse => cases h
    rename_i hl0
    clear hws
    go_enter Try.func93, Try.ntmps93
    go_wp2_with fail
    have BG := Aside0.mk (show (w.alloc (.cells #[.slice A0_0 l0_0.length c0_0] 29)).heap[w.heap.size]? = some (.cells #[.slice A0_0 l0_0.length c0_0] 29 (0, 0)) from blk_new_ _ _)
    have hB0 := Aside0.mk (below_alloc (Below.refl w.heap.size w) (.cells #[.slice A0_0 l0_0.length c0_0] 29))
    have HGE := Aside0.mk (Nat.le_refl w.heap.size)
    generalize hgp : w.heap.size = gp at BG
    rw [hgp] at HGE
    have HGP := Aside0.mk hgp
    generalize w.alloc (.cells #[.slice A0_0 l0_0.length c0_0] 29) = w1 at BG hB0 ⊢
    clear hgp
    refine (impl_IsPoset.calls k _ _ l0_0 _ _ (Kd.C_below HR.out hB0.out) HC.out HB_.out).mono ?_
    rintro e w2 ⟨rfl, hb2⟩
    have hB2 := Aside0.mk (below_step hB0.out hb2)
    have BG2 := Aside0.mk (blk_below BG.out hb2)
    have hz1 : w2.cell? ⟨gp, 0, none⟩ = some (.slice A0_0 l0_0.length c0_0) := (blk_cell BG2.out 0).trans rfl
    clear BG hb2 hB0
    go_wp2_with fail
    refine (impl_Poset_ways.calls k _ _ l0_0 _ _ (Kd.C_below HR.out hB2.out) HC.out HW_.out).mono ?_
    rintro e w3 ⟨vw, rfl, hRw, hb3⟩
    have hB3 := Aside0.mk (below_step hB2.out hb3)
    have BG3 := Aside0.mk (blk_below BG2.out hb3)
    clear BG2 hB2 hz1 hb3
    obtain ⟨Aw, cw, rfl⟩ := Kd.R_slice hRw
    have c0 : (0 : Int) < (ws.length : Int) := by omega
    obtain ⟨adw, ew, hxw⟩ := Kd.at_int (Kd.R_reads' hRw).2.2 0 (by omega) c0
    cases ew
    generalize rd ws 0 = z at h hxw
    rw [show adw.add (0 : Int).toNat = adw from by cases adw; rfl] at hxw
    clear hRw
    split at h
    · rename_i hz
      have hzb : decide (z > 500) = true := decide_eq_true hz
      simp only [Option.some.injEq, Prod.mk.injEq] at h
      obtain ⟨rfl, rfl⟩ := h
      clear hz
      go_wp2_with fail
      go_ret2
      exact ⟨_, rfl, Kd.S_nil _ _ _ _ _, hB3.out⟩
    · rename_i hz
      have hzb : decide (z > 500) = false := decide_eq_false hz
      replace h := Option.bind_eq_some_iff.mp h
      obtain ⟨outs, ho, h⟩ := h
      simp only [Option.some.injEq, Prod.mk.injEq] at h
      obtain ⟨rfl, rfl⟩ := h
      have HO := Aside0.mk ho
      clear hz ho
      go_wp2_with (first
        | ((with_reducible refine gate_dst (N := 17) rfl ?_); refine Kd.S_lit (w0 := w) (Kd.slice 3 (Kd.int .i64)) w.heap.size 22 ?hg (N := 17) ?hd (xs := ([] : List (List Int))) (inner := []) (ok := fun _ => True) (okp := fun _ => True) ?hr ?hp (fun _ hk => hk) trivial hB3.out hB3.out.size (by simp) ?_; (case hd => rfl); (case hg => rfl); (case hr => first | (go_simp; done) | (go_simp; rfl)); (case hp => exact (Reps.none _ _)); intro vo w4 hS4 hB4 hg4 hn4; obtain ⟨Ao, co, eo⟩ := Kd.S_slice hS4; rw [List.length_nil] at eo; subst eo; have HS4 := Aside0.mk hS4; have HB4 := Aside0.mk hB4; have HG4 := Aside0.mk hg4; clear hS4 hB4 hg4 hn4 hxw)
        | ((with_reducible refine gate_dst (N := 18) rfl ?_); refine Kd.R_lit (w0 := w) (Kd.int .i64) w.heap.size 3 ?hg (N := 18) ?hd (xs := ([] : List Int)) (inner := []) (ok := fun _ => True) (okp := fun _ => True) ?hr ?hp (fun _ hk => hk) trivial HB4.out HB4.out.size (by simp) ?_; (case hd => rfl); (case hg => rfl); (case hr => first | (go_simp; done) | (go_simp; rfl)); (case hp => exact (Reps.none _ _)); intro vw w5 hR5 hB5 hg5 hn5; obtain ⟨Av, cv, ev⟩ := Kd.R_slice hR5; rw [List.length_nil] at ev; subst ev; have HST0 := Aside0.mk (few_start BG3.out HS4.out HG4.out hR5 hg5 hn5 hB5); clear hR5 hB5 hg5 hn5 HS4 HB4 HG4 BG3))
      have HST := HST0
      clear HST0
      generalize (((w5.alloc (.cells #[.slice Ao 0 co] 26)).alloc (.cells #[.slice Av 0 cv] 22)).alloc (.cells #[(.func (.func 112) #[] #[.pointer (some ⟨gp, 0, none⟩), .pointer (some ⟨w5.heap.size, 0, none⟩), .pointer (some ⟨w5.heap.size + 1, 0, none⟩), .pointer (some ⟨w5.heap.size + 1 + 1, 0, none⟩)])] 92)) = W2 at HST ⊢
      generalize w5.heap.size + 1 + 1 = gf at HST ⊢
      generalize w5.heap.size + 1 = gw at HST ⊢
      generalize w5.heap.size = go at HST ⊢
      refine (impl_few_1.calls w gp go gw gf _ _ l0_0 HR.out HC.out k 0 W2 _ _ _ _ _ _ HST.out HO.out).mono ?_
      rintro e w6 ⟨rfl, vo2, vw2, hst6, hk6⟩
      have HST6 := Aside0.mk hst6
      clear hst6 hk6 HST
      have hz6 : w6.cell? ⟨go, 0, none⟩ = some vo2 := (blk_cell HST6.out.ho 0).trans rfl
      obtain ⟨Ao2, co2, eo2⟩ := Kd.S_slice HST6.out.so
      subst eo2
      go_wp2_with fail
      go_ret2
      exact ⟨_, rfl, Kd.S_mono HST6.out.so (fun _ _ => trivial), HST6.out.below⟩

/-! ### impl_sum: function 115 -/
def impl_sum.l0 : Nat → (Int → Option Int) → Int → List Int → Int → Int → Option (Int)
  | 0, _, _, _, _, _ => none
  | k + 1, x1, x5, x8, x9, x10 => if x10 < x9 then (if 0 ≤ x10 then (if x10 < (x8.length : Int) then ((x1 (rd x8 x10)).bind fun t207 => (impl_sum.l0 k x1 (wrap64 (x5 + t207)) x8 x9 (wrap64 (x10 + 1)))) else (none)) else (none)) else (some x5)
def impl_sum.f (k : Nat) (l0 : List Int) (F1 : (Int → Option Int)) : Option (Int) := impl_sum.l0 k F1 0 l0 (l0.length : Int) 0
theorem impl_sum.mono_l : ∀ k, (∀ y0 y1 y2 y3 y4, LeO (impl_sum.l0 k y0 y1 y2 y3 y4) (impl_sum.l0 (k + 1) y0 y1 y2 y3 y4))
  | 0 => fun _ _ _ _ _ r h => by simp [impl_sum.l0] at h
  | k + 1 => by
    have ih0 := impl_sum.mono_l k
    · intro y0 y1 y2 y3 y4
      unfold impl_sum.l0
      repeat' first
      | (with_reducible exact ih0 _ _ _ _ _)
      | (with_reducible exact LeO.refl _)
      | (with_reducible exact LeO.none _)
      | (with_reducible refine LeO.ite ?_ ?_)
      | (with_reducible refine LeO.bind ?_ (fun _ => ?_))
      | exact ih0 _ _ _ _ _
      | exact LeO.none _
      | refine LeO.ite ?_ ?_
      | refine LeO.bind ?_ (fun _ => ?_)
theorem impl_sum.mono : ∀ a0 a1 k, LeO (impl_sum.f k a0 a1) (impl_sum.f (k + 1) a0 a1) := by
  intro a0 a1 k
  have ih0 := impl_sum.mono_l k
  unfold impl_sum.f
  repeat' first
      | (with_reducible exact ih0 _ _ _ _ _)
      | (with_reducible exact LeO.refl _)
      | (with_reducible exact LeO.none _)
      | (with_reducible refine LeO.ite ?_ ?_)
      | (with_reducible refine LeO.bind ?_ (fun _ => ?_))
      | exact ih0 _ _ _ _ _
      | exact LeO.none _
      | refine LeO.ite ?_ ?_
      | refine LeO.bind ?_ (fun _ => ?_)
set_option maxHeartbeats 8000000 in
set_option maxRecDepth 100000 in
theorem impl_sum.calls (k : Nat) (A0 : Option Addr) (c0 : Nat) (l0 : List Int) (F1v : Value) (F1 : (Int → Option Int)) (r : Int) (w : World) (hr0 : Kd.C (Kd.int .i64) w A0 l0.length l0) (hc0 : l0.length ≤ c0) (hF1 : IsFn76 Try.prog w F1v F1) (h : impl_sum.f k l0 F1 = some r) :
    Calls Try.prog 115 #[.slice A0 l0.length c0, F1v] w fun e w' => e = .returned (.int .i64 r) ∧ Below w.heap.size w w' := by
  have HR0 := Aside0.mk hr0
  have HC0 := Aside0.mk hc0
  clear hr0 hc0
  have HF1 := Aside0.mk hF1
  clear hF1
  have HB := Aside0.mk (Below.refl w.heap.size w)
  have H : (impl_sum.l0 k F1 0 l0 (l0.length : Int) 0) = some r := h
  clear h
  have H' := Aside0.mk H
  clear H
  go_enter Try.func115, Try.ntmps115
  go_wp2
  go_loopg [5, 10] k (fun kq v5 v10 w' => ∃ (x5_1 : Int) (x10_1 : Int), v5 = .int .i64 x5_1 ∧ v10 = .int .i64 x10_1 ∧ Aside0 (impl_sum.l0 kq F1 x5_1 l0 (l0.length : Int) x10_1 = some r) ∧ Aside0 (kq ≤ k) ∧ Aside0 (Below w.heap.size w w'))
  case atStart => exact ⟨(0), (0), (by first | rfl | (simp; done) | (simp [*]; done)), (by first | rfl | (simp; done) | (simp [*]; done)), H', ⟨Nat.le_refl _⟩, ⟨by repeat (first | (with_reducible first | exact HB.out | apply below_alloc | apply pw_below_drewN | apply below_drew1) | exact HB.out)⟩⟩
  case round =>
    clear H'
    try clear c1
    try clear p2
    obtain ⟨x5_1, x10_1, rfl, rfl, HA, HK1, HB⟩ := hrel
    cases gk with
    | zero => exact absurd HA.out (by simp [impl_sum.l0])
    | succ k1 =>
      have H := HA.out
      clear HA
      simp only [impl_sum.l0] at H
      by_cases c3 : x10_1 < (l0.length : Int)
      · rw [if_pos c3] at H
        have c3b0 : decide (x10_1 < (l0.length : Int)) = true := decide_eq_true c3
        clear c3
        by_cases c4 : 0 ≤ x10_1
        · rw [if_pos c4] at H
          have c4b0 : decide (0 ≤ x10_1) = true := decide_eq_true c4
          clear c4
          by_cases c5 : x10_1 < (l0.length : Int)
          · rw [if_pos c5] at H
            have c5b0 : decide (x10_1 < (l0.length : Int)) = true := decide_eq_true c5
            clear c5
            replace H := Option.bind_eq_some_iff.mp H
            obtain ⟨t207, A60, H⟩ := H
            replace H : (impl_sum.l0 k1 F1 (wrap64 (x5_1 + t207)) l0 (l0.length : Int) (wrap64 (x10_1 + 1))) = some r := H
            have A6 := Aside0.mk A60
            clear A60
            have H' := Aside0.mk H
            clear H
            have p206 : 0 ≤ (x10_1 : Int) := of_decide_eq_true (by first | (with_reducible assumption) | assumption)
            have q206 : x10_1 < (l0.length : Int) := of_decide_eq_true (by first | (with_reducible assumption) | assumption)
            obtain ⟨ad206, e206, hx206_0⟩ := Kd.at_int HR0.out x10_1 p206 q206
            cases e206
            replace hx206_0 := (HB.out.cell (World.block_lt_of_cell? w _ hx206_0)).trans hx206_0
            replace p206 := eq_true p206
            replace q206 := eq_true q206
            go_wp2_with (first | ((with_reducible refine gate_calleev rfl ?_); refine goesF_ (some 17) rfl rfl (v := F1v) rfl #[.int .i64 (rd l0 x10_1)] rfl (by (try simp only [List.map_toArray, List.map_cons, List.map_nil]); first | done | rfl | (simp only [List.length_drop, List.length_take]; rfl)) ?_; (with_reducible refine (HF1.out.calls (rd l0 x10_1) t207 _ ?side1 A6.out).mono ?_); (case side1 => exact by repeat (first | (with_reducible first | exact HB.out | apply below_alloc | apply pw_below_drewN | apply below_drew1) | exact HB.out)); rintro e w7 ⟨rfl, hb⟩; refine ⟨_, rfl, ?_⟩; have n0_ := Aside0.mk (below_step (by repeat (first | (with_reducible first | exact HB.out | apply below_alloc | apply pw_below_drewN | apply below_drew1) | exact HB.out)) hb); clear HB; have HB := n0_; clear n0_; (try clear hb); (try clear hb2); (try clear hk); (try clear hi)))
            go_roundg k1
            case measure => have := HK1.out; omega
            case rel => exact ⟨(wrap64 (x5_1 + t207)), (wrap64 (x10_1 + 1)), (by first | rfl | (simp; done) | (simp [*]; done)), (by first | rfl | (simp; done) | (simp [*]; done)), H', ⟨by have := HK1.out; omega⟩, ⟨by repeat (first | (with_reducible first | exact HB.out | apply below_alloc | apply pw_below_drewN | apply below_drew1) | exact HB.out)⟩⟩
          · rw [if_neg c5] at H
            exact absurd H (by simp)
        · rw [if_neg c4] at H
          exact absurd H (by simp)
      · rw [if_neg c3] at H
        have c3b0 : decide (x10_1 < (l0.length : Int)) = false := decide_eq_false c3
        clear c3
        obtain rfl := Option.some.inj H
        go_wp2
        go_ret
        exact ⟨by first | rfl | (simp [errW_none, errW_some] <;> rfl) | (simp [*, errW_none, errW_some] <;> rfl), by repeat (first | (with_reducible first | exact HB.out | apply below_alloc | apply pw_below_drewN | apply below_drew1) | exact HB.out)⟩

end Go.Proofs.Ytcajljndcddldaa.PDv2
