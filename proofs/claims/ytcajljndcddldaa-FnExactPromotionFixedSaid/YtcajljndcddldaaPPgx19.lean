-- Written for this claim by wip/gprint.py, out of the translation and of hand-written parts.
import Derived.Test.YtcajljndcddldaaPPgx0
import Derived.Test.YtcajljndcddldaaPPgx11
import Derived.Test.YtcajljndcddldaaPPgx17
namespace Go.Proofs.Ytcajljndcddldaa.PPg
open Go.RowKit Go.Proofs.YtcajljndcddldaaW.PrintWords Go.Proofs.YtcajljndcddldaaW.PrintLast Go.Proofs.YtcajljndcddldaaW.PrintMore
attribute [local go_sem] max2_int min2_int max_two min_two max_three min_three max_four min_four   -- for this text's walks alone
set_option linter.unusedVariables false
set_option linter.unusedSimpArgs false

/-! ### impl_Poset_exchange: by hand -/
def impl_Poset_exchange.f (l x : List Int) (i : Int) : Option (List Int) := if x.length = 10 ∧ 0 ≤ i ∧ i < 9 then (if 0 ≤ rd x i ∧ rd x i < (l.length : Int) then (impl_has.f (rd l (rd x i)) (rd x (i + 1))).bind fun h1 => if h1 = true then some x else
    (if 0 ≤ rd x (i + 1) ∧ rd x (i + 1) < (l.length : Int) then (impl_has.f (rd l (rd x (i + 1))) (rd x i)).bind fun h2 => if h2 = true then some x else some ((x.set i.toNat (rd x (i + 1))).set (i.toNat + 1) (rd x i)) else none) else none) else none
set_option maxRecDepth 100000 in
set_option maxHeartbeats 4000000 in
theorem impl_Poset_exchange.calls (A0_0 : Option Addr) (c0_0 : Nat) (l0_0 : List Int) (x : List Int) (i : Int) (r : List Int) (w : World) (hr0_0 : Kd.C (Kd.int .i64) w A0_0 l0_0.length l0_0) (hc0_0 : l0_0.length ≤ c0_0) (h : impl_Poset_exchange.f l0_0 x i = some r) :
    Calls Try.prog 132 #[.agg #[.slice A0_0 l0_0.length c0_0], .agg (lineC x), .int .i64 i] w fun e w' => e = .returned (.agg (lineC r)) ∧ Below w.heap.size w w' := by
  have hu29 := Try.underlying29
  have hu102 := Try.underlying102
  unfold impl_Poset_exchange.f at h
  split at h
  case isFalse => cases h
  rename_i hi
  obtain ⟨hxl, hi0, hi9⟩ := hi
  split at h
  case isFalse => cases h
  rename_i ha
  replace h := Option.bind_eq_some_iff.mp h
  obtain ⟨b1, hb1, h⟩ := h
  have HX := Aside0.mk hxl
  have HI0 := Aside0.mk hi0
  have HI9 := Aside0.mk hi9
  have HA := Aside0.mk ha
  have HB1_ := Aside0.mk hb1
  have HH := Aside0.mk h
  have HR := Aside0.mk hr0_0
  have HC := Aside0.mk hc0_0
  clear hxl hi0 hi9 ha hb1 h hr0_0 hc0_0
  go_enter Try.func132, Try.ntmps132
  go_wp2_with fail
  have BP := Aside0.mk (line_old (line_old (line_new w (.cells #[.slice A0_0 l0_0.length c0_0] 29)) (.cells (lineC x) 102)) (.cells (lineC (List.replicate 10 0)) 102))
  have hb2 := line_new (w.alloc (.cells #[.slice A0_0 l0_0.length c0_0] 29)) (.cells (lineC x) 102)
  have hb3 := line_new ((w.alloc (.cells #[.slice A0_0 l0_0.length c0_0] 29)).alloc (.cells (lineC x) 102)) (.cells (lineC (List.replicate 10 0)) 102)
  rw [line_size] at hb2
  rw [line_size, line_size] at hb3
  have BL := Aside0.mk (line_old hb2 (.cells (lineC (List.replicate 10 0)) 102))
  have BR := Aside0.mk hb3
  have HB := Aside0.mk (below_alloc (below_alloc (below_alloc (Below.refl w.heap.size w) (.cells #[.slice A0_0 l0_0.length c0_0] 29)) (.cells (lineC x) 102)) (.cells (lineC (List.replicate 10 0)) 102))
  clear hb2 hb3
  have e3 : (((w.alloc (.cells #[.slice A0_0 l0_0.length c0_0] 29)).alloc (.cells (lineC x) 102)).alloc (.cells #[.int .i64 0, .int .i64 0, .int .i64 0, .int .i64 0, .int .i64 0, .int .i64 0, .int .i64 0, .int .i64 0, .int .i64 0, .int .i64 0] 102)) = (((w.alloc (.cells #[.slice A0_0 l0_0.length c0_0] 29)).alloc (.cells (lineC x) 102)).alloc (.cells (lineC (List.replicate 10 0)) 102)) := rfl
  rw [e3]
  clear e3
  generalize (((w.alloc (.cells #[.slice A0_0 l0_0.length c0_0] 29)).alloc (.cells (lineC x) 102)).alloc (.cells (lineC (List.replicate 10 0)) 102)) = W at BP BL BR HB ⊢
  have GL := Aside0.mk (show w.heap.size ≤ w.heap.size + 1 by omega)
  have GR := Aside0.mk (show w.heap.size ≤ w.heap.size + 1 + 1 by omega)
  have NE := Aside0.mk (show w.heap.size + 1 + 1 ≠ w.heap.size + 1 by omega)
  have NE2 := Aside0.mk (show w.heap.size ≠ w.heap.size + 1 by omega)
  generalize w.heap.size + 1 + 1 = gr at BR GR NE ⊢
  generalize w.heap.size + 1 = gl at BL GL NE NE2 ⊢
  generalize hgp : w.heap.size = gp at BP NE2 ⊢
  have HGP := Aside0.mk hgp
  have hi0 := HI0.out
  have hi9 := HI9.out
  have hz1 := line_cell BL.out i hi0 (by rw [HX.out]; omega)
  have hz2 := line_cell BL.out (i + 1) (by omega) (by rw [HX.out]; omega)
  have hs1 : IntKind.i64.wrap (i + 1) = i + 1 := by rw [i64_w]; unfold wrap64; omega
  have hs2 : (0 ≤ i + 1) = True := by simp; omega
  have hs3 : (i + 1 < 10) = True := by simp; omega
  have hs5 : (i < 10) = True := by simp; omega
  have hs6 : (0 ≤ i) = True := by simp; omega
  have hs4 := Aside0.mk (show (i + 1).toNat = i.toNat + 1 by omega)
  clear hi0 hi9 hgp
  go_quiet (fail)
  replace BP := Aside0.mk (blk_below BP.out (pw_below_drewN (Below.refl _ _) nq))
  replace BL := Aside0.mk (blk_below BL.out (pw_below_drewN (Below.refl _ _) nq))
  replace BR := Aside0.mk (blk_below BR.out (pw_below_drewN (Below.refl _ _) nq))
  replace HB := Aside0.mk (below_step HB.out (pw_below_drewN (Below.refl _ _) nq))
  clear hz1 hz2
  generalize W.drewN nq = W2 at BP BL BR HB ⊢
  obtain ⟨a, ea⟩ : ∃ a, rd x i = a := ⟨_, rfl⟩
  obtain ⟨b, eb⟩ : ∃ b, rd x (i + 1) = b := ⟨_, rfl⟩
  rw [ea] at HA HB1_ HH
  rw [eb] at HB1_ HH
  rw [ea, eb]
  clear ea eb
  have ha0 := HA.out.1
  have ha1 := HA.out.2
  obtain ⟨adl, el, hxa⟩ := Kd.at_int (Kd.C_below HR.out HB.out) a ha0 ha1
  cases el
  have hzp : W2.cell? ⟨gp, 0, none⟩ = some (.slice (some adl) l0_0.length c0_0) := (blk_cell BP.out 0).trans rfl
  have h := HH.out
  cases b1 with
  | true =>
    obtain rfl := Option.some.inj h
    clear h HH
    go_wp2_with (first
      | ((with_reducible refine gate_callee (f := 105) rfl ?_); refine goesL_ (some 22) rfl rfl Try.func105 (by kernel_rfl) rfl #[.int .i64 (rd l0_0 a), .int .i64 b] rfl (by (try simp only [List.map_toArray, List.map_cons, List.map_nil]); first | done | rfl) ?_; refine (impl_has.calls _ _ true _ HB1_.out).mono ?_; rintro e w' ⟨rfl, nd1, rfl⟩; refine ⟨_, rfl, ?_⟩)
      | ((with_reducible refine gate_ (.load 102 (.tmp 4)) rfl ?_); refine line_load 102 rfl rfl gl rfl BL.out hu102 rfl lineI HX.out ?_)
      | ((with_reducible refine gate_ (.store 102 (.tmp 6) (.tmp 41)) rfl ?_); refine line_store 102 rfl rfl rfl gr rfl BR.out rfl lineI (List.length_replicate ..) HX.out ?_))
    (try simp only [Exit.inBlock, Exit.then])
    refine bodyPost_ret (results_cell_row rfl _ _ gr _ (lineC x) (0, 0) _ rfl (setRow_same BR.out _) hu102 rfl (by rw [lineI, lineC_size, HX.out])) rfl ?_
    exact ⟨rfl, setRow_below (below_step HB.out (pw_below_drewN (Below.refl _ _) _)) GR.out⟩
  | false =>
    rw [if_neg (by decide)] at h
    split at h
    case isFalse => cases h
    rename_i hbb
    replace h := Option.bind_eq_some_iff.mp h
    obtain ⟨b2, hb2, h⟩ := h
    have HB2_ := Aside0.mk hb2
    obtain ⟨hb0, hb1⟩ := hbb
    obtain ⟨adl', el, hxb⟩ := Kd.at_int (Kd.C_below HR.out HB.out) b hb0 hb1
    cases el
    have HH2 := Aside0.mk h
    clear hb2 h HH
    cases b2 with
    | true =>
      obtain rfl := Option.some.inj HH2.out
      clear HH2
      go_wp2_with (first
        | ((with_reducible refine gate_callee (f := 105) rfl ?_); refine goesL_ (some 22) rfl rfl Try.func105 (by kernel_rfl) rfl #[.int .i64 (rd l0_0 a), .int .i64 b] rfl (by (try simp only [List.map_toArray, List.map_cons, List.map_nil]); first | done | rfl) ?_; refine (impl_has.calls _ _ false _ HB1_.out).mono ?_; rintro e w' ⟨rfl, nd1, rfl⟩; refine ⟨_, rfl, ?_⟩)
        | (go_at_call 105; (with_reducible refine (impl_has.calls (rd l0_0 b) a true _ HB2_.out).mono ?_); rintro e w' ⟨rfl, nd2, rfl⟩)
        | ((with_reducible refine gate_ (.load 102 (.tmp 4)) rfl ?_); refine line_load 102 rfl rfl gl rfl BL.out hu102 rfl lineI HX.out ?_)
        | ((with_reducible refine gate_ (.store 102 (.tmp 6) (.tmp 41)) rfl ?_); refine line_store 102 rfl rfl rfl gr rfl BR.out rfl lineI (List.length_replicate ..) HX.out ?_))
      (try simp only [Exit.inBlock, Exit.then])
      refine bodyPost_ret (results_cell_row rfl _ _ gr _ (lineC x) (0, 0) _ rfl (setRow_same BR.out _) hu102 rfl (by rw [lineI, lineC_size, HX.out])) rfl ?_
      exact ⟨rfl, setRow_below (below_step HB.out (pw_below_drewN (Below.refl _ _) _)) GR.out⟩
    | false =>
      have hr := Option.some.inj HH2.out
      have HRR := Aside0.mk hr
      have hz1 : W2.cell? ⟨gl, i.toNat, none⟩ = some (.int .i64 (rd x i)) := line_cell BL.out i HI0.out (by have := HI9.out; have := HX.out; omega)
      have hz2 : W2.cell? ⟨gl, i.toNat + 1, none⟩ = some (.int .i64 (rd x (i + 1))) := by rw [← hs4.out]; exact line_cell BL.out (i + 1) (by have := HI0.out; omega) (by have := HI9.out; have := HX.out; omega)
      have hf1 : W2.frozen? ⟨gl, i.toNat, none⟩ = false := blk_frozen BL.out _
      have hf2 : W2.frozen? ⟨gl, i.toNat + 1, none⟩ = false := blk_frozen BL.out _
      have hs7 : (i + 1).toNat = i.toNat + 1 := hs4.out
      have BL2 := Aside0.mk (line_set (line_set BL.out i.toNat b) (i.toNat + 1) a)
      have BR2 := Aside0.mk (blk_far (blk_far BR.out NE.out (p := ⟨gl, i.toNat, none⟩) (.int .i64 b)) NE.out (p := ⟨gl, i.toNat + 1, none⟩) (.int .i64 a))
      have HB2 : Aside0 (Below w.heap.size w ((W2.setCell ⟨gl, i.toNat, none⟩ (.int .i64 b)).setCell ⟨gl, i.toNat + 1, none⟩ (.int .i64 a))) := ⟨(HB.out.setCell GL.out _).setCell GL.out _⟩
      have HX2 := Aside0.mk (show ((x.set i.toNat b).set (i.toNat + 1) a).length = 10 by rw [List.length_set, List.length_set]; exact HX.out)
      clear hr HH2
      go_wp2_with (first
        | ((with_reducible refine gate_callee (f := 105) rfl ?_); refine goesL_ (some 22) rfl rfl Try.func105 (by kernel_rfl) rfl #[.int .i64 (rd l0_0 a), .int .i64 b] rfl (by (try simp only [List.map_toArray, List.map_cons, List.map_nil]); first | done | rfl) ?_; refine (impl_has.calls _ _ false _ HB1_.out).mono ?_; rintro e w' ⟨rfl, nd1, rfl⟩; refine ⟨_, rfl, ?_⟩)
        | (go_at_call 105; (with_reducible refine (impl_has.calls (rd l0_0 b) a false _ HB2_.out).mono ?_); rintro e w' ⟨rfl, nd2, rfl⟩)
        | ((with_reducible refine gate_ (.load 102 (.tmp 4)) rfl ?_); refine line_load 102 rfl rfl gl rfl BL2.out hu102 rfl lineI HX2.out ?_)
        | ((with_reducible refine gate_ (.store 102 (.tmp 6) (.tmp 41)) rfl ?_); refine line_store 102 rfl rfl rfl gr rfl BR2.out rfl lineI (List.length_replicate ..) HX2.out ?_))
      (try simp only [Exit.inBlock, Exit.then])
      refine bodyPost_ret (results_cell_row rfl _ _ gr _ (lineC ((x.set i.toNat b).set (i.toNat + 1) a)) (0, 0) _ rfl (setRow_same BR2.out _) hu102 rfl (by rw [lineI, lineC_size, HX2.out])) rfl ?_
      exact ⟨by rw [HRR.out], setRow_below (below_step HB2.out (pw_below_drewN (Below.refl _ _) _)) GR.out⟩


/-! ### impl_Poset_promoted: by hand -/
theorem impl_Poset_exchange.length {l x r : List Int} {i : Int} (h : impl_Poset_exchange.f l x i = some r) : r.length = 10 := by
  unfold impl_Poset_exchange.f at h
  split at h
  case isFalse => cases h
  rename_i hi
  split at h
  case isFalse => cases h
  obtain ⟨b1, _, h⟩ := Option.bind_eq_some_iff.mp h
  split at h
  · rw [← Option.some.inj h]; exact hi.1
  · split at h
    case isFalse => cases h
    obtain ⟨b2, _, h⟩ := Option.bind_eq_some_iff.mp h
    split at h
    · rw [← Option.some.inj h]; exact hi.1
    · rw [← Option.some.inj h, List.length_set, List.length_set]; exact hi.1
def impl_Poset_promoted.f (l x : List Int) : Option (List Int) := if x.length = 10 ∧ l.length < 17592186044416 then (List.range (l.length - 1)).foldlM (fun x (i : Nat) => impl_Poset_exchange.f l x (i : Int)) x else none
theorem impl_Poset_promoted.len_go {l : List Int} : ∀ {es : List Nat} {x r : List Int}, x.length = 10 → es.foldlM (fun x (i : Nat) => impl_Poset_exchange.f l x (i : Int)) x = some r → r.length = 10
  | [], x, r, hx, h => by rw [← Option.some.inj h]; exact hx
  | e :: es, x, r, hx, h => by
    rw [List.foldlM_cons] at h
    obtain ⟨y, hy, h⟩ := Option.bind_eq_some_iff.mp h
    exact impl_Poset_promoted.len_go (impl_Poset_exchange.length hy) h
theorem impl_Poset_promoted.length {l x r : List Int} (h : impl_Poset_promoted.f l x = some r) : r.length = 10 := by
  unfold impl_Poset_promoted.f at h
  split at h
  case isFalse => cases h
  rename_i hx
  exact impl_Poset_promoted.len_go hx.1 h
set_option maxRecDepth 100000 in
set_option maxHeartbeats 4000000 in
theorem impl_Poset_promoted.calls (A0_0 : Option Addr) (c0_0 : Nat) (l0_0 : List Int) (x : List Int) (r : List Int) (w : World) (hr0_0 : Kd.C (Kd.int .i64) w A0_0 l0_0.length l0_0) (hc0_0 : l0_0.length ≤ c0_0) (h : impl_Poset_promoted.f l0_0 x = some r) :
    Calls Try.prog 124 #[.agg #[.slice A0_0 l0_0.length c0_0], .agg (lineC x)] w fun e w' => e = .returned (.agg (lineC r)) ∧ Below w.heap.size w w' := by
  have hu29 := Try.underlying29
  have hu102 := Try.underlying102
  unfold impl_Poset_promoted.f at h
  split at h
  case isFalse => cases h
  rename_i hi
  have HX := Aside0.mk hi.1
  have HL := Aside0.mk hi.2
  have HH := Aside0.mk h
  have HR := Aside0.mk hr0_0
  have HC := Aside0.mk hc0_0
  clear hi h hr0_0 hc0_0
  go_enter Try.func124, Try.ntmps124
  go_wp2_with fail
  have BP := Aside0.mk (line_old (line_old (line_new w (.cells #[.slice A0_0 l0_0.length c0_0] 29)) (.cells (lineC x) 102)) (.cells (lineC (List.replicate 10 0)) 102))
  have hb2 := line_new (w.alloc (.cells #[.slice A0_0 l0_0.length c0_0] 29)) (.cells (lineC x) 102)
  have hb3 := line_new ((w.alloc (.cells #[.slice A0_0 l0_0.length c0_0] 29)).alloc (.cells (lineC x) 102)) (.cells (lineC (List.replicate 10 0)) 102)
  rw [line_size] at hb2
  rw [line_size, line_size] at hb3
  have BL := Aside0.mk (line_old hb2 (.cells (lineC (List.replicate 10 0)) 102))
  have BR := Aside0.mk hb3
  have HB := Aside0.mk (below_alloc (below_alloc (below_alloc (Below.refl w.heap.size w) (.cells #[.slice A0_0 l0_0.length c0_0] 29)) (.cells (lineC x) 102)) (.cells (lineC (List.replicate 10 0)) 102))
  clear hb2 hb3
  have e3 : (((w.alloc (.cells #[.slice A0_0 l0_0.length c0_0] 29)).alloc (.cells (lineC x) 102)).alloc (.cells #[.int .i64 0, .int .i64 0, .int .i64 0, .int .i64 0, .int .i64 0, .int .i64 0, .int .i64 0, .int .i64 0, .int .i64 0, .int .i64 0] 102)) = (((w.alloc (.cells #[.slice A0_0 l0_0.length c0_0] 29)).alloc (.cells (lineC x) 102)).alloc (.cells (lineC (List.replicate 10 0)) 102)) := rfl
  rw [e3]
  clear e3
  generalize (((w.alloc (.cells #[.slice A0_0 l0_0.length c0_0] 29)).alloc (.cells (lineC x) 102)).alloc (.cells (lineC (List.replicate 10 0)) 102)) = W at BP BL BR HB ⊢
  have GL := Aside0.mk (show w.heap.size ≤ w.heap.size + 1 by omega)
  have GR := Aside0.mk (show w.heap.size ≤ w.heap.size + 1 + 1 by omega)
  have NE := Aside0.mk (show w.heap.size + 1 + 1 ≠ w.heap.size + 1 by omega)
  have NE2 := Aside0.mk (show w.heap.size ≠ w.heap.size + 1 by omega)
  generalize w.heap.size + 1 + 1 = gr at BR GR NE ⊢
  generalize w.heap.size + 1 = gl at BL GL NE NE2 ⊢
  generalize hgp : w.heap.size = gp at BP NE2 ⊢
  have HGP := Aside0.mk hgp
  clear hgp
  have hzp : W.cell? ⟨gp, 0, none⟩ = some (.slice A0_0 l0_0.length c0_0) := (blk_cell BP.out 0).trans rfl
  refine (impl_Poset_n.calls _ _ l0_0 (l0_0.length : Int) _ ?s1 ?s2 rfl).mono ?_
  case s1 => exact Kd.C_below HR.out HB.out
  case s2 => exact HC.out
  rintro e W2 ⟨rfl, hb⟩
  replace BP := Aside0.mk (blk_below BP.out hb)
  replace BL := Aside0.mk (blk_below BL.out hb)
  replace BR := Aside0.mk (blk_below BR.out hb)
  replace HB := Aside0.mk (below_step HB.out hb)
  clear hb hzp
  obtain ⟨n1, hn1⟩ : ∃ n1 : Int, wrap64 ((l0_0.length : Int) - 1) = n1 := ⟨_, rfl⟩
  have HN1 := Aside0.mk (show n1 = (l0_0.length : Int) - 1 by rw [← hn1]; have := HL.out; unfold wrap64; omega)
  have hn2 : IntKind.i64.wrap ((l0_0.length : Int) - 1) = n1 := by rw [i64_w]; exact hn1
  go_wp2_with fail
  (try rw [hn2])
  (try rw [hn1])
  clear hn1 hn2
  go_loopg [5, 9] l0_0.length (fun kq v5 v9 w' => ∃ (i : Int) (j : Nat) (y : List Int), v9 = .int .i64 i ∧ Aside0 (i = (j : Int) ∧ j ≤ l0_0.length - 1 ∧ kq = l0_0.length - j ∧ y.length = 10) ∧ Aside0 (((List.range (l0_0.length - 1)).drop j).foldlM (fun x (i : Nat) => impl_Poset_exchange.f l0_0 x (i : Int)) y = some r)
    ∧ Aside0 (w'.heap[gp]? = some (.cells #[.slice A0_0 l0_0.length c0_0] 29 (0, 0))) ∧ Aside0 (w'.heap[gl]? = some (.cells (lineC y) 102 (0, 0))) ∧ Aside0 (w'.heap[gr]? = some (.cells (lineC (List.replicate 10 0)) 102 (0, 0))) ∧ Aside0 (Below w.heap.size w w'))
  case atStart => exact ⟨0, 0, x, rfl, ⟨rfl, Nat.zero_le _, rfl, HX.out⟩, ⟨by rw [List.drop_zero]; exact HH.out⟩, BP, BL, BR, HB⟩
  case round =>
    clear HH BP BL BR HB
    obtain ⟨i, j, y, rfl, HJ, HF, BP, BL, BR, HB⟩ := hrel
    by_cases cj : i < n1
    · have cjb : decide (i < n1) = true := decide_eq_true cj
      have hjl : j < l0_0.length - 1 := by have := HJ.out.1; have := HN1.out; omega
      have hds := HF.out
      rw [List.drop_eq_getElem_cons (by rw [List.length_range]; exact hjl), List.foldlM_cons, List.getElem_range] at hds
      replace hds := Option.bind_eq_some_iff.mp hds
      obtain ⟨y2, hy2, hds⟩ := hds
      rw [← HJ.out.1] at hy2
      have HY2 := Aside0.mk hy2
      have HY2L := Aside0.mk (impl_Poset_exchange.length hy2)
      have HF2 := Aside0.mk hds
      have HJL := Aside0.mk hjl
      clear hy2 hds hjl HF cj
      have hzp : wr.cell? ⟨gp, 0, none⟩ = some (.slice A0_0 l0_0.length c0_0) := (blk_cell BP.out 0).trans rfl
      go_wp2_with (first
        | ((with_reducible refine gate_ (.load 102 (.tmp 3)) rfl ?_); refine line_load 102 rfl rfl gl rfl BL.out hu102 rfl lineI HJ.out.2.2.2 ?_)
        | ((with_reducible refine gate_callee (f := 132) rfl ?_); refine goesL_ (some 15) rfl rfl Try.func132 (by kernel_rfl) rfl #[.agg #[.slice A0_0 l0_0.length c0_0], .agg (lineC y), .int .i64 i] rfl (by (try simp only [List.map_toArray, List.map_cons, List.map_nil]); first | done | rfl) ?_; refine (impl_Poset_exchange.calls A0_0 c0_0 l0_0 y i y2 _ (Kd.C_below HR.out HB.out) HC.out HY2.out).mono ?_; rintro e w3 ⟨rfl, hb⟩; refine ⟨_, rfl, ?_⟩; replace BP := Aside0.mk (blk_below BP.out hb); replace BL := Aside0.mk (blk_below BL.out hb); replace BR := Aside0.mk (blk_below BR.out hb); replace HB := Aside0.mk (below_step HB.out hb); clear hb hzp)
        | ((with_reducible refine gate_ (.store 102 (.tmp 3) (.tmp 15)) rfl ?_); refine line_store 102 rfl rfl rfl gl rfl BL.out rfl lineI HJ.out.2.2.2 HY2L.out ?_))
      go_roundg (l0_0.length - (j + 1))
      case measure => have := HJ.out; have := HJL.out; omega
      case rel => exact ⟨wrap64 (i + 1), j + 1, y2, rfl, ⟨by have := HJ.out.1; have := HJL.out; have := HL.out; unfold wrap64; omega, HJL.out, rfl, HY2L.out⟩, HF2, ⟨(setRow_far NE2.out _).trans BP.out⟩, ⟨setRow_same BL.out _⟩, ⟨(setRow_far NE.out _).trans BR.out⟩, ⟨setRow_below HB.out GL.out⟩⟩
    · have cjb : decide (i < n1) = false := decide_eq_false cj
      have hr : y = r := by
        have h1 := HJ.out
        have h2 := HF.out
        have h3 := HN1.out
        rw [List.drop_of_length_le (by rw [List.length_range]; omega)] at h2
        exact Option.some.inj h2
      subst hr
      clear cj
      go_wp2_with (first
        | ((with_reducible refine gate_ (.load 102 (.tmp 3)) rfl ?_); refine line_load 102 rfl rfl gl rfl BL.out hu102 rfl lineI HJ.out.2.2.2 ?_)
        | ((with_reducible refine gate_ (.store 102 (.tmp 4) (.tmp 17)) rfl ?_); refine line_store 102 rfl rfl rfl gr rfl BR.out rfl lineI (List.length_replicate ..) HJ.out.2.2.2 ?_))
      (try simp only [Exit.inBlock, Exit.then])
      refine bodyPost_ret (results_cell_row rfl _ _ gr _ (lineC y) (0, 0) _ rfl (setRow_same BR.out _) hu102 rfl (by rw [lineI, lineC_size, HJ.out.2.2.2])) rfl ?_
      exact ⟨rfl, setRow_below HB.out GR.out⟩


end Go.Proofs.Ytcajljndcddldaa.PPg
