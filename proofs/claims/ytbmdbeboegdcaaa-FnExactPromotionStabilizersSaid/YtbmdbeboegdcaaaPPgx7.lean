-- Written for this claim by wip/gprint.py, out of the translation and of hand-written parts.
import Derived.Test.YtbmdbeboegdcaaaPPgx0
import Derived.Test.YtbmdbeboegdcaaaPPgx1
import Derived.Test.YtbmdbeboegdcaaaPPgx2
import Derived.Test.YtbmdbeboegdcaaaPPgx3
import Derived.Test.YtbmdbeboegdcaaaPPgx4
import Derived.Test.YtbmdbeboegdcaaaPPgx6
namespace Go.Proofs.Ytbmdbeboegdcaaa.PPg
open Go.RowKit Go.Proofs.YtbmdbeboegdcaaaW.PrintWords Go.Proofs.YtbmdbeboegdcaaaW.PrintLast Go.Proofs.YtbmdbeboegdcaaaW.PrintMore
attribute [local go_sem] max2_int min2_int max_two min_two max_three min_three max_four min_four   -- for this text's walks alone
set_option linter.unusedVariables false
set_option linter.unusedSimpArgs false

/-! ### spec_PromotionStabilizers: by hand -/
theorem sl_elem_ {α : Type} {d : Kd α} {e : Nat} {w : World} {A : Option Addr} {xs : List (List α)} (h : Kd.C (Kd.slice e d) w A xs.length xs) {i : Nat} (hi : i < xs.length) : ∃ ad Ai ci, A = some ad ∧ w.cell? (ad.add i) = some (.slice Ai xs[i].length ci) ∧ xs[i].length ≤ ci ∧ Kd.C d w Ai xs[i].length xs[i] := by
  obtain ⟨ad, hA, hc⟩ := h.2.2 (by omega)
  obtain ⟨c, hcl, ⟨Ai, ci, rfl, h1, h2⟩, hcc⟩ := hc i xs[i] (List.getElem?_eq_getElem hi)
  exact ⟨ad, Ai, ci, hA, by simpa [Kd.slice] using hcc 0 _ rfl, h1, h2⟩
theorem stab_info : (Try.prog.info? 3).map (fun i => (i.zero, i.size, i.bytes)) = some (some (.int .i64 0), 1, 8) := by kernel_rfl
theorem stab_new (w : World) (o : Obj) : (w.alloc o).heap[w.heap.size]? = some o := by unfold World.alloc; exact Array.getElem?_push_size
def spec_PromotionStabilizers.inn (k : Nat) (T x : List Int) : Nat → List Int → Nat → List Int → Option (Nat × List Int)
  | 0, _, _, _ => none
  | q + 1, now, n, seen => (if n = 0 then some false else spec_l1Same.f k now x).bind fun b => if b = true then some (n, seen) else if n < 1099511627776 ∧ seen.length < 1099511627776 then (spec_RankLinear.f k T now).bind fun p => (spec_liPromote.f k T now 1).bind fun z => spec_PromotionStabilizers.inn k T x q z (n + 1) (seen ++ [p.1]) else none
def spec_PromotionStabilizers.out (k : Nat) (T : List Int) (m : Int) : List (List Int) → Nat → List Int → List Int → Option (List Int)
  | [], _, out, _ => some out
  | x :: r, j, out, seen => (spec_l1Has.f k seen (j : Int)).bind fun b => if b = true then spec_PromotionStabilizers.out k T m r (j + 1) out seen else (spec_PromotionStabilizers.inn k T x k x 0 seen).bind fun p => if 0 < p.1 then (spec_svPut.f k out (wrap64 (Int.tdiv m (p.1 : Int)))).bind fun o => spec_PromotionStabilizers.out k T m r (j + 1) o p.2 else none
def spec_PromotionStabilizers.f (k : Nat) (a0 a1 : Int) : Option (List Int × Bool) := (spec_shSides.f a0 a1).bind fun b => if b = true then (spec_poRectangle.f k a0 a1).bind fun T => (spec_liAll.f k T).bind fun p => if p.1.length < 1099511627776 then (spec_PromotionStabilizers.out k T (wrap64 (a0 * a1)) p.1 0 [] []).bind fun o => some (o, true) else none else some ([], false)
set_option maxRecDepth 100000 in
set_option maxHeartbeats 8000000 in
theorem spec_PromotionStabilizers.calls (k : Nat) (a0 : Int) (a1 : Int) (r1 : List Int) (r2 : Bool) (w : World) (h : spec_PromotionStabilizers.f k a0 a1 = some (r1, r2)) :
    Calls Try.prog 4 #[.int .i64 a0, .int .i64 a1] w fun e w' => ∃ v0_ : Value, e = .returned (.tuple #[v0_, .bool r2]) ∧ Kd.R (Kd.int .i64) 3 w' w.heap.size (fun _ => True) v0_ r1 ∧ Below w.heap.size w w' := by
  have hu29 := Try.underlying29
  unfold spec_PromotionStabilizers.f at h
  obtain ⟨b, hb, h⟩ := Option.bind_eq_some_iff.mp h
  have HSH := Aside0.mk hb
  clear hb
  go_enter Try.func4, Try.ntmps4
  cases b with
  | false =>
    simp only [Bool.false_eq_true, if_false, Option.some.injEq, Prod.mk.injEq] at h
    obtain ⟨rfl, rfl⟩ := h
    go_wp2_with (first | ((with_reducible refine gate_callee (f := 9) rfl ?_); refine goesL_ (some 19) rfl rfl Try.func9 (by kernel_rfl) rfl #[.int .i64 a0, .int .i64 a1] rfl (by (try simp only [List.map_toArray, List.map_cons, List.map_nil]); first | done | rfl) ?_; refine (spec_shSides.calls a0 a1 false _ HSH.out).mono ?_; rintro e w1 ⟨rfl, ⟨nd, rfl⟩⟩; refine ⟨_, rfl, ?_⟩))
    go_ret2
    exact ⟨_, rfl, Kd.R_nil _ _ _ _ _, pw_below_drewN (Below.refl _ _) nd⟩
  | true =>
    simp only [if_true] at h
    obtain ⟨T, hT, h⟩ := Option.bind_eq_some_iff.mp h
    obtain ⟨⟨all, b2⟩, hall, h⟩ := Option.bind_eq_some_iff.mp h
    split at h
    case isFalse => cases h
    rename_i hal
    obtain ⟨o, ho, h⟩ := Option.bind_eq_some_iff.mp h
    simp only [Option.some.injEq, Prod.mk.injEq] at h
    obtain ⟨rfl, rfl⟩ := h
    have H1 := Aside0.mk hT
    have H2 := Aside0.mk hall
    have HAL := Aside0.mk hal
    have HO := Aside0.mk ho
    clear hT hall hal ho
    go_wp2_with (first
      | ((with_reducible refine gate_callee (f := 9) rfl ?_); refine goesL_ (some 19) rfl rfl Try.func9 (by kernel_rfl) rfl #[.int .i64 a0, .int .i64 a1] rfl (by (try simp only [List.map_toArray, List.map_cons, List.map_nil]); first | done | rfl) ?_; refine (spec_shSides.calls a0 a1 true _ HSH.out).mono ?_; rintro e w1 ⟨rfl, ⟨nd, rfl⟩⟩; refine ⟨_, rfl, ?_⟩)
      | ((with_reducible refine gate_callee (f := 10) rfl ?_); refine goesL_ (some 23) rfl rfl Try.func10 (by kernel_rfl) rfl #[.int .i64 a0, .int .i64 a1] rfl (by (try simp only [List.map_toArray, List.map_cons, List.map_nil]); first | done | rfl) ?_; refine (spec_poRectangle.calls k a0 a1 T _ H1.out).mono ?_; rintro e w2 ⟨vT, rfl, hRT, hb2⟩; refine ⟨_, rfl, ?_⟩; obtain ⟨AT, cT, rfl, hcT, hCT⟩ := Kd.R_reads hRT; have HCT := Aside0.mk hCT; have HcT := Aside0.mk hcT; have HB := Aside0.mk (below_step (pw_below_drewN (Below.refl w.heap.size w) nd) hb2); clear hRT hb2 hcT hCT))
    have BG := Aside0.mk (stab_new w2 (.cells #[.slice AT T.length cT] 29))
    have hba := below_alloc (Below.refl w2.heap.size w2) (.cells #[.slice AT T.length cT] 29)
    replace HCT := Aside0.mk (Kd.C_below HCT.out hba)
    replace HB := Aside0.mk (below_step HB.out hba)
    clear hba
    generalize w2.alloc (.cells #[.slice AT T.length cT] 29) = w3 at BG HCT HB ⊢
    generalize w2.heap.size = gp at BG ⊢
    refine (spec_liAll.calls k AT cT T all b2 w3 HCT.out HcT.out H2.out).mono ?_
    rintro e W ⟨vA, rfl, hS, hb4⟩
    obtain ⟨Al, cl, rfl, hcl, hCl⟩ := Kd.S_reads hS
    have HCL := Aside0.mk hCl
    have HcL := Aside0.mk hcl
    replace BG := Aside0.mk (blk_below BG.out hb4)
    replace HCT := Aside0.mk (Kd.C_below HCT.out hb4)
    replace HB := Aside0.mk (below_step HB.out hb4)
    clear hS hb4 hCl hcl H1 H2 HSH
    go_wp2_with fail
    go_loopg [9, 10, 31] all.length (fun kq v9 v10 v31 w' => ∃ (i : Int) (j : Nat) (out seen : List Int), v31 = .int .i64 i ∧ Aside0 (i = (j : Int) ∧ j ≤ all.length ∧ kq = all.length - j) ∧ Aside0 (spec_PromotionStabilizers.out k T (wrap64 (a0 * a1)) (all.drop j) j out seen = some o)
      ∧ Aside0 (Kd.R (Kd.int .i64) 3 w' W.heap.size (fun k_ => True ∧ some k_ ≠ v10.ownBlock) v9 out) ∧ Aside0 (Kd.R (Kd.int .i64) 3 w' W.heap.size (fun _ => True) v10 seen) ∧ Aside0 (Below W.heap.size W w'))
    case atStart => exact ⟨0, 0, [], [], rfl, ⟨rfl, Nat.zero_le _, rfl⟩, ⟨by rw [List.drop_zero]; exact HO.out⟩, ⟨Kd.R_nil _ _ _ _ _⟩, ⟨Kd.R_nil _ _ _ _ _⟩, ⟨Below.refl _ _⟩⟩
    case round =>
      clear HO
      obtain ⟨i, j, out, seen, rfl, HJ, HF, HOut, HSeen, HBW⟩ := hrel
      by_cases cj : i < (all.length : Int)
      · have cjb : decide (i < (all.length : Int)) = true := decide_eq_true cj
        have p1 : (0 ≤ i) = True := by have := HJ.out; simp; omega
        have hjl : j < all.length := by have := HJ.out; omega
        have hds := HF.out
        rw [List.drop_eq_getElem_cons hjl] at hds
        obtain ⟨ad, Ai, ci, rfl, hxc, hxl, hxC⟩ := sl_elem_ HCL.out hjl
        have hxc2 := (HBW.out.cell (World.block_lt_of_cell? _ _ hxc)).trans hxc
        have hxF := Kd.C_F (Kd.heap_int .i64) hxC
        have hij : i.toNat = j := by have := HJ.out; omega
        generalize all[j] = x at hds hxc2 hxl hxF
        rw [← hij] at hxc2
        simp only [spec_PromotionStabilizers.out] at hds
        obtain ⟨bh, hbh, hds⟩ := Option.bind_eq_some_iff.mp hds
        rw [← HJ.out.1] at hbh
        have HJL := Aside0.mk hjl
        have HXL := Aside0.mk hxl
        have HXF := Aside0.mk (Kd.F_mono (Kd.F_below hxF HBW.out) (ok' := fun k_ => some k_ ≠ u10.ownBlock) (fun k_ hk e_ => by have := ((Kd.R_bound HSeen.out).1 k_ e_.symm).2.1; omega))
        have HXF2 := Aside0.mk (Kd.F_below hxF HBW.out)
        have HBH := Aside0.mk hbh
        obtain ⟨As, cs, es⟩ := Kd.R_slice HSeen.out
        subst es
        have HSC := Aside0.mk (Kd.R_reads' HSeen.out)
        have HDS := Aside0.mk hds
        clear hij hxl hxF hxC hxc hbh hds HF hjl
        replace cj := eq_true cj
        have HAS : ∀ b_ : Bool, b_ = bh → Aside0 (spec_l1Has.f k seen i = some b_) := fun b_ hb_ => by rw [hb_]; exact HBH
        cases bh with
        | true =>
          have HBT := HAS true rfl
          have HF2 := Aside0.mk (show spec_PromotionStabilizers.out k T (wrap64 (a0 * a1)) (all.drop (j + 1)) (j + 1) out seen = some o by simpa using HDS.out)
          clear HAS HBH HDS
          go_wp2_with (first
            | ((with_reducible refine gate_callee (f := 12) rfl ?_); refine goesL_ (some 38) rfl rfl Try.func12 (by kernel_rfl) rfl #[.slice As seen.length cs, .int .i64 i] rfl (by (try simp only [List.map_toArray, List.map_cons, List.map_nil]); first | done | rfl) ?_; refine (spec_l1Has.calls k As cs seen i true _ HSC.out.2.2 HSC.out.2.1 HBT.out).mono ?_; rintro e w5 ⟨rfl, ⟨nd2, rfl⟩⟩; refine ⟨_, rfl, ?_⟩))
          go_roundg (all.length - (j + 1))
          case measure => have := HJ.out; have := HJL.out; omega
          case rel => exact ⟨wrap64 (i + 1), j + 1, out, seen, rfl, ⟨by have := HJ.out.1; have := HJL.out; have := HAL.out; unfold wrap64; omega, HJL.out, rfl⟩, HF2, ⟨Kd.R_drewN HOut.out _⟩, ⟨Kd.R_drewN HSeen.out _⟩, ⟨pw_below_drewN HBW.out _⟩⟩
        | false =>
          have HBT := HAS false rfl
          have hds := HDS.out
          simp only [Bool.false_eq_true, if_false] at hds
          obtain ⟨⟨len, seen2⟩, hin, hds⟩ := Option.bind_eq_some_iff.mp hds
          split at hds
          case isFalse => cases hds
          rename_i hlen
          obtain ⟨o2, ho2, hds⟩ := Option.bind_eq_some_iff.mp hds
          have HIN := Aside0.mk hin
          have HLEN := Aside0.mk hlen
          have HO2 := Aside0.mk ho2
          have HF2 := Aside0.mk hds
          clear HAS HBH HDS hin hlen ho2 hds
          go_wp2_with (first
            | ((with_reducible refine gate_callee (f := 12) rfl ?_); refine goesL_ (some 38) rfl rfl Try.func12 (by kernel_rfl) rfl #[.slice As seen.length cs, .int .i64 i] rfl (by (try simp only [List.map_toArray, List.map_cons, List.map_nil]); first | done | rfl) ?_; refine (spec_l1Has.calls k As cs seen i false _ HSC.out.2.2 HSC.out.2.1 HBT.out).mono ?_; rintro e w5 ⟨rfl, ⟨nd2, rfl⟩⟩; refine ⟨_, rfl, ?_⟩))
          replace HOut := Aside0.mk (Kd.R_drewN HOut.out nd2)
          replace HSeen := Aside0.mk (Kd.R_drewN HSeen.out nd2)
          replace HBW := Aside0.mk (pw_below_drewN HBW.out nd2)
          replace HXF := Aside0.mk (Kd.F_drewN HXF.out nd2)
          replace HXF2 := Aside0.mk (Kd.F_drewN HXF2.out nd2)
          clear HSC HBT hxc2
          generalize wr.drewN nd2 = w6 at HOut HSeen HBW HXF HXF2 ⊢
          go_loopg [10, 13, 14] k (fun kq v10 v13 v14 w' => ∃ (n : Nat) (now seen1 : List Int) (An : Option Addr) (cn : Nat), v13 = .int .i64 (n : Int) ∧ v14 = .slice An now.length cn ∧ Aside0 (now.length ≤ cn) ∧ Aside0 (spec_PromotionStabilizers.inn k T x kq now n seen1 = some (len, seen2))
            ∧ Aside0 (Kd.F (Kd.int .i64) w' (fun k_ => True ∧ some k_ ≠ v10.ownBlock) An now.length now) ∧ Aside0 (Kd.R (Kd.int .i64) 3 w' W.heap.size (fun k_ => True ∧ some k_ ≠ v10.ownBlock) u9 out) ∧ Aside0 (Kd.R (Kd.int .i64) 3 w' W.heap.size (fun _ => True) v10 seen1) ∧ Aside0 (Below W.heap.size W w') ∧ Aside0 (Kd.F (Kd.int .i64) w' (fun k_ => k_ < W.heap.size) Ai x.length x))
          case atStart => exact ⟨0, x, seen, Ai, ci, rfl, rfl, HXL, HIN, ⟨Kd.F_mono HXF.out (fun _ h_ => ⟨trivial, h_⟩)⟩, HOut, HSeen, HBW, HXF2⟩
          case round =>
            clear HIN HXF HOut HSeen HBW HXF2
            obtain ⟨n, now, seen1, An, cn, rfl, rfl, HCN, HG, HNow, HOut, HSeen, HBW, HXF2⟩ := hrel
            cases gk with
            | zero => exact absurd HG.out (by simp [spec_PromotionStabilizers.inn])
            | succ kq =>
              have hg := HG.out
              simp only [spec_PromotionStabilizers.inn] at hg
              by_cases c0 : n = 0
              · rw [if_pos c0, Option.bind_some] at hg
                have HGO := Aside0.mk hg
                have cz1 : decide ((n : Int) = 0) = true := decide_eq_true (by omega)
                have cz2 : ((n : Int) == 0) = true := by simp [c0]
                have cz3 : ((n : Int) = 0) = True := by simp [c0]
                clear hg c0
                have hg2 := HGO.out
                rw [if_neg (by decide)] at hg2
                split at hg2
                case isFalse => cases hg2
                rename_i hlim
                obtain ⟨⟨atr, ob⟩, hrank, hg2⟩ := Option.bind_eq_some_iff.mp hg2
                obtain ⟨z, hprom, hg2⟩ := Option.bind_eq_some_iff.mp hg2
                have HLIM := Aside0.mk hlim
                have HRANK := Aside0.mk hrank
                have HPROM := Aside0.mk hprom
                have HG2 := Aside0.mk (show spec_PromotionStabilizers.inn k T x kq z (n + 1) (seen1 ++ [atr]) = some (len, seen2) from hg2)
                clear hlim hrank hprom hg2 HGO HG
                have hzp : wr.cell? ⟨gp, 0, none⟩ = some (.slice AT T.length cT) := (blk_cell (blk_below BG.out HBW.out) 0).trans rfl
                have HBC := Aside0.mk (fun (w_ : World) (hb_ : Below W.heap.size W w_) => (show w_.cell? ⟨gp, 0, none⟩ = some (.slice AT T.length cT) from (blk_cell (blk_below BG.out hb_) 0).trans rfl))
                go_wp2_with (first
                  | ((with_reducible refine gate_callee (f := 15) rfl ?_); refine goesL_ (some 54) rfl rfl Try.func15 (by kernel_rfl) rfl #[.agg #[.slice AT T.length cT], .slice An now.length cn] rfl (by (try simp only [List.map_toArray, List.map_cons, List.map_nil]); first | done | rfl) ?_; refine (spec_RankLinear.calls k AT cT T An cn now atr ob _ (Kd.C_below HCT.out HBW.out) HcT.out (Kd.F_now HNow.out) HCN.out HRANK.out).mono ?_; rintro e w7 ⟨rfl, hb⟩; refine ⟨_, rfl, ?_⟩; replace HNow := Aside0.mk (Kd.F_below HNow.out hb); replace HOut := Aside0.mk (Kd.R_below HOut.out hb); replace HSeen := Aside0.mk (Kd.R_below HSeen.out hb); replace HXF2 := Aside0.mk (Kd.F_below HXF2.out hb); replace HBW := Aside0.mk (below_step HBW.out hb); clear hb hzp; have hzp := HBC.out _ HBW.out; have HS0 := Aside0.mk HBW.out.size)
                  | ((with_reducible refine gate_builtin (b := .append) (xs := #[.tmp 57, .tmp 59]) rfl ?_); at_builtin; refine Kd.R_append (Kd.int .i64) (w0 := W) W.heap.size rfl (.tmp 57) (.tmp 59) 22 3 (.int .i64 0) 8 rfl Try.underlying22 stab_info rfl (by decide) (by decide) u10 seen1 atr [.int .i64 atr] (fun _ => True) (fun _ => False) rfl rfl rfl (fun _ h_ => h_.elim) (fun _ _ => trivial) HSeen.out HBW.out HS0.out (by have := HLIM.out; omega) ?_; intro v1 w8 hR1 hB1 hg1 hat1; replace HNow := Aside0.mk (Kd.F_after HNow.out hg1 hat1); replace HOut := Aside0.mk (Kd.R_after HOut.out hg1 hat1); replace HXF2 := Aside0.mk (Kd.F_grown HXF2.out hg1 (fun k_ hk_ e_ => by have := ((Kd.R_bound HSeen.out).1 k_ e_.symm).2.1; omega)); replace HSeen := Aside0.mk hR1; replace HBW := Aside0.mk hB1; clear hR1 hB1 hg1 hat1 hzp; have hzp := HBC.out _ HBW.out)
                  | ((with_reducible refine gate_callee (f := 14) rfl ?_); refine goesL_ (some 50) rfl rfl Try.func14 (by kernel_rfl) rfl #[.agg #[.slice AT T.length cT], .slice An now.length cn, .int .i64 1] rfl (by (try simp only [List.map_toArray, List.map_cons, List.map_nil]); first | done | rfl) ?_; refine (spec_liPromote.calls k AT cT T (fun k_ => True ∧ some k_ ≠ v1.ownBlock) An cn now 1 z _ (Kd.C_below HCT.out HBW.out) HcT.out (Kd.V_mk HCN.out HNow.out) HPROM.out).mono ?_; rintro e w9 ⟨vz, rfl, hRz, hb⟩; refine ⟨_, rfl, ?_⟩; obtain ⟨Az, cz, rfl, hcz, _⟩ := Kd.R_reads hRz; have HCZ := Aside0.mk hcz; have HLT := Aside0.mk (Kd.R_lt HSeen.out); have HNz := Aside0.mk (Kd.F_mono (Kd.R_F hRz) (ok' := fun k_ => True ∧ some k_ ≠ v1.ownBlock) (fun k_ hk_ => ⟨trivial, fun e_ => by have := HLT.out k_ e_.symm; omega⟩)); replace HOut := Aside0.mk (Kd.R_below HOut.out hb); replace HSeen := Aside0.mk (Kd.R_below HSeen.out hb); replace HXF2 := Aside0.mk (Kd.F_below HXF2.out hb); replace HBW := Aside0.mk (below_step HBW.out hb); clear hb hzp hRz hcz))
                go_roundg kq
                case measure => omega
                case rel => exact ⟨n + 1, z, _, Az, cz, (by show Value.int .i64 (wrap64 ((n : Int) + 1)) = _; congr 1; have := HLIM.out; unfold wrap64; omega), rfl, HCZ, HG2, HNz, HOut, HSeen, HBW, HXF2⟩
              · rw [if_neg c0] at hg
                have cz1 : decide ((n : Int) = 0) = false := decide_eq_false (by omega)
                have cz2 : ((n : Int) == 0) = false := by simp; omega
                have cz3 : ((n : Int) = 0) = False := by simp; omega
                obtain ⟨bs, hbs, hg⟩ := Option.bind_eq_some_iff.mp hg
                have HAS : ∀ b_ : Bool, b_ = bs → Aside0 (spec_l1Same.f k now x = some b_) := fun b_ hb_ => ⟨by rw [hb_]; exact hbs⟩
                cases bs with
                | false =>
                  have HSAME := HAS false rfl
                  have HGO := Aside0.mk hg
                  clear HAS hbs hg c0
                  have hg2 := HGO.out
                  rw [if_neg (by decide)] at hg2
                  split at hg2
                  case isFalse => cases hg2
                  rename_i hlim
                  obtain ⟨⟨atr, ob⟩, hrank, hg2⟩ := Option.bind_eq_some_iff.mp hg2
                  obtain ⟨z, hprom, hg2⟩ := Option.bind_eq_some_iff.mp hg2
                  have HLIM := Aside0.mk hlim
                  have HRANK := Aside0.mk hrank
                  have HPROM := Aside0.mk hprom
                  have HG2 := Aside0.mk (show spec_PromotionStabilizers.inn k T x kq z (n + 1) (seen1 ++ [atr]) = some (len, seen2) from hg2)
                  clear hlim hrank hprom hg2 HGO HG
                  have hzp : wr.cell? ⟨gp, 0, none⟩ = some (.slice AT T.length cT) := (blk_cell (blk_below BG.out HBW.out) 0).trans rfl
                  have HBC := Aside0.mk (fun (w_ : World) (hb_ : Below W.heap.size W w_) => (show w_.cell? ⟨gp, 0, none⟩ = some (.slice AT T.length cT) from (blk_cell (blk_below BG.out hb_) 0).trans rfl))
                  go_wp2_with (first
                    | (go_at_call 13; (with_reducible refine (spec_l1Same.calls k An cn now Ai ci x false _ (Kd.F_now HNow.out) HCN.out (Kd.F_now HXF2.out) HXL.out HSAME.out).mono ?_); rintro e w5 ⟨rfl, ⟨nd3, rfl⟩⟩; replace HNow := Aside0.mk (Kd.F_drewN HNow.out nd3); replace HOut := Aside0.mk (Kd.R_drewN HOut.out nd3); replace HSeen := Aside0.mk (Kd.R_drewN HSeen.out nd3); replace HXF2 := Aside0.mk (Kd.F_drewN HXF2.out nd3); replace HBW := Aside0.mk (pw_below_drewN HBW.out nd3); clear hzp; have hzp := HBC.out _ HBW.out; generalize wr.drewN nd3 = w6b at HNow HOut HSeen HXF2 HBW hzp ⊢)
                    | ((with_reducible refine gate_callee (f := 15) rfl ?_); refine goesL_ (some 54) rfl rfl Try.func15 (by kernel_rfl) rfl #[.agg #[.slice AT T.length cT], .slice An now.length cn] rfl (by (try simp only [List.map_toArray, List.map_cons, List.map_nil]); first | done | rfl) ?_; refine (spec_RankLinear.calls k AT cT T An cn now atr ob _ (Kd.C_below HCT.out HBW.out) HcT.out (Kd.F_now HNow.out) HCN.out HRANK.out).mono ?_; rintro e w7 ⟨rfl, hb⟩; refine ⟨_, rfl, ?_⟩; replace HNow := Aside0.mk (Kd.F_below HNow.out hb); replace HOut := Aside0.mk (Kd.R_below HOut.out hb); replace HSeen := Aside0.mk (Kd.R_below HSeen.out hb); replace HXF2 := Aside0.mk (Kd.F_below HXF2.out hb); replace HBW := Aside0.mk (below_step HBW.out hb); clear hb hzp; have hzp := HBC.out _ HBW.out; have HS0 := Aside0.mk HBW.out.size)
                    | ((with_reducible refine gate_builtin (b := .append) (xs := #[.tmp 57, .tmp 59]) rfl ?_); at_builtin; refine Kd.R_append (Kd.int .i64) (w0 := W) W.heap.size rfl (.tmp 57) (.tmp 59) 22 3 (.int .i64 0) 8 rfl Try.underlying22 stab_info rfl (by decide) (by decide) u10 seen1 atr [.int .i64 atr] (fun _ => True) (fun _ => False) rfl rfl rfl (fun _ h_ => h_.elim) (fun _ _ => trivial) HSeen.out HBW.out HS0.out (by have := HLIM.out; omega) ?_; intro v1 w8 hR1 hB1 hg1 hat1; replace HNow := Aside0.mk (Kd.F_after HNow.out hg1 hat1); replace HOut := Aside0.mk (Kd.R_after HOut.out hg1 hat1); replace HXF2 := Aside0.mk (Kd.F_grown HXF2.out hg1 (fun k_ hk_ e_ => by have := ((Kd.R_bound HSeen.out).1 k_ e_.symm).2.1; omega)); replace HSeen := Aside0.mk hR1; replace HBW := Aside0.mk hB1; clear hR1 hB1 hg1 hat1 hzp; have hzp := HBC.out _ HBW.out)
                    | ((with_reducible refine gate_callee (f := 14) rfl ?_); refine goesL_ (some 50) rfl rfl Try.func14 (by kernel_rfl) rfl #[.agg #[.slice AT T.length cT], .slice An now.length cn, .int .i64 1] rfl (by (try simp only [List.map_toArray, List.map_cons, List.map_nil]); first | done | rfl) ?_; refine (spec_liPromote.calls k AT cT T (fun k_ => True ∧ some k_ ≠ v1.ownBlock) An cn now 1 z _ (Kd.C_below HCT.out HBW.out) HcT.out (Kd.V_mk HCN.out HNow.out) HPROM.out).mono ?_; rintro e w9 ⟨vz, rfl, hRz, hb⟩; refine ⟨_, rfl, ?_⟩; obtain ⟨Az, cz, rfl, hcz, _⟩ := Kd.R_reads hRz; have HCZ := Aside0.mk hcz; have HLT := Aside0.mk (Kd.R_lt HSeen.out); have HNz := Aside0.mk (Kd.F_mono (Kd.R_F hRz) (ok' := fun k_ => True ∧ some k_ ≠ v1.ownBlock) (fun k_ hk_ => ⟨trivial, fun e_ => by have := HLT.out k_ e_.symm; omega⟩)); replace HOut := Aside0.mk (Kd.R_below HOut.out hb); replace HSeen := Aside0.mk (Kd.R_below HSeen.out hb); replace HXF2 := Aside0.mk (Kd.F_below HXF2.out hb); replace HBW := Aside0.mk (below_step HBW.out hb); clear hb hzp hRz hcz))
                  go_roundg kq
                  case measure => omega
                  case rel => exact ⟨n + 1, z, _, Az, cz, (by show Value.int .i64 (wrap64 ((n : Int) + 1)) = _; congr 1; have := HLIM.out; unfold wrap64; omega), rfl, HCZ, HG2, HNz, HOut, HSeen, HBW, HXF2⟩
                | true =>
                  have HSAME := HAS true rfl
                  rw [if_pos rfl] at hg
                  simp only [Option.some.injEq, Prod.mk.injEq] at hg
                  obtain ⟨rfl, rfl⟩ := hg
                  clear HAS hbs HG
                  have HBC := Aside0.mk (fun (w_ : World) (hb_ : Below W.heap.size W w_) => (show w_.cell? ⟨gp, 0, none⟩ = some (.slice AT T.length cT) from (blk_cell (blk_below BG.out hb_) 0).trans rfl))
                  obtain ⟨Ab, cb, eb⟩ := Kd.R_slice HOut.out
                  subst eb
                  have HBO := Aside0.mk (Kd.R_reads' HOut.out)
                  go_wp2_with (first
                    | (go_at_call 13; (with_reducible refine (spec_l1Same.calls k An cn now Ai ci x true _ (Kd.F_now HNow.out) HCN.out (Kd.F_now HXF2.out) HXL.out HSAME.out).mono ?_); rintro e w5 ⟨rfl, ⟨nd3, rfl⟩⟩; replace HOut := Aside0.mk (Kd.R_drewN HOut.out nd3); replace HSeen := Aside0.mk (Kd.R_drewN HSeen.out nd3); replace HBW := Aside0.mk (pw_below_drewN HBW.out nd3); clear HNow HXF2 HBO; have HBO := Aside0.mk (Kd.R_reads' HOut.out); generalize wr.drewN nd3 = w6b at HOut HSeen HBW HBO ⊢)
                    | ((with_reducible refine gate_callee (f := 16) rfl ?_); refine goesL_ (some 69) rfl rfl Try.func16 (by kernel_rfl) rfl #[.slice Ab out.length cb, .int .i64 (wrap64 (Int.tdiv (wrap64 (a0 * a1)) (n : Int)))] rfl (by (try simp only [List.map_toArray, List.map_cons, List.map_nil]); first | done | rfl) ?_; refine (spec_svPut.calls k Ab cb out _ o2 _ HBO.out.2.2 HBO.out.2.1 HO2.out).mono ?_; rintro e w7 ⟨vo, rfl, hRo, hb⟩; refine ⟨_, rfl, ?_⟩; have HLT := Aside0.mk (Kd.R_lt HSeen.out); have HSZ := Aside0.mk HBW.out.size; replace HOut := Aside0.mk (Kd.R_lower (Kd.R_mono (Kd.R_bound hRo) (ok' := fun k_ => True ∧ some k_ ≠ u10.ownBlock) (fun k_ hk_ => ⟨trivial, fun e_ => by have := HLT.out k_ e_.symm; have := hk_.2.1; omega⟩)) HSZ.out); replace HSeen := Aside0.mk (Kd.R_below HSeen.out hb); replace HBW := Aside0.mk (below_step HBW.out hb); clear hb hRo))
                  go_roundg (all.length - (j + 1))
                  case measure => have := HJ.out; have := HJL.out; omega
                  case rel => exact ⟨wrap64 (i + 1), j + 1, _, _, rfl, ⟨by have := HJ.out.1; have := HJL.out; have := HAL.out; unfold wrap64; omega, HJL.out, rfl⟩, HF2, HOut, HSeen, HBW⟩
      · have cjb : decide (i < (all.length : Int)) = false := decide_eq_false cj
        have hr : out = o := by
          have h1 := HJ.out
          have h2 := HF.out
          rw [show j = all.length by omega, List.drop_length] at h2
          exact Option.some.inj h2
        subst hr
        clear cj
        go_wp2_with fail
        go_ret2
        exact ⟨_, rfl, Kd.R_lower (Kd.R_mono HOut.out (fun _ _ => trivial)) HB.out.size, below_step HB.out HBW.out⟩

/-! ### impl_within: function 30 -/
def impl_within.f (a0 : Int) (a1 : Int) (a2 : Int) : Option (Bool) := if a1 ≤ a0 then (some (decide (a0 ≤ a2))) else (some false)
set_option maxHeartbeats 8000000 in
set_option maxRecDepth 100000 in
theorem impl_within.calls (a0 : Int) (a1 : Int) (a2 : Int) (r : Bool) (w : World) (h : impl_within.f a0 a1 a2 = some r) :
    Calls Try.prog 30 #[.int .i64 a0, .int .i64 a1, .int .i64 a2] w fun e w' => e = .returned (.bool r) ∧ Drawn0 w w' := by
  have H : (if a1 ≤ a0 then (some (decide (a0 ≤ a2))) else (some false)) = some r := h
  clear h
  by_cases c4 : a1 ≤ a0
  · rw [if_pos c4] at H
    have c4b0 : decide (a1 ≤ a0) = true := decide_eq_true c4
    clear c4
    obtain rfl := Option.some.inj H
    go_enter Try.func30, Try.ntmps30
    go_wp2
    go_ret
    exact ⟨by first | rfl | (simp; done) | (simp [*]; done), by repeat (first | exact Drawn0.refl _ | apply Drawn0.step)⟩
  · rw [if_neg c4] at H
    have c4b0 : decide (a1 ≤ a0) = false := decide_eq_false c4
    clear c4
    obtain rfl := Option.some.inj H
    go_enter Try.func30, Try.ntmps30
    go_wp2
    go_ret
    exact ⟨by first | rfl | (simp; done) | (simp [*]; done), by repeat (first | exact Drawn0.refl _ | apply Drawn0.step)⟩

/-! ### impl_areSides: function 17 -/
def impl_areSides.f (a0 : Int) (a1 : Int) (a2 : Int) : Option (Bool) := (impl_within.f a0 1 a2).bind fun t248 => (if t248 = true then ((impl_within.f a1 1 a2).bind fun t249 => (if t249 = true then (some (decide ((wrap64 (a0 * a1)) ≤ a2))) else (some false))) else (some false))
set_option maxHeartbeats 8000000 in
set_option maxRecDepth 100000 in
theorem impl_areSides.calls (a0 : Int) (a1 : Int) (a2 : Int) (r : Bool) (w : World) (h : impl_areSides.f a0 a1 a2 = some r) :
    Calls Try.prog 17 #[.int .i64 a0, .int .i64 a1, .int .i64 a2] w fun e w' => e = .returned (.bool r) ∧ Drawn0 w w' := by
  have H : ((impl_within.f a0 1 a2).bind fun t248 => (if t248 = true then ((impl_within.f a1 1 a2).bind fun t249 => (if t249 = true then (some (decide ((wrap64 (a0 * a1)) ≤ a2))) else (some false))) else (some false))) = some r := h
  clear h
  replace H := Option.bind_eq_some_iff.mp H
  obtain ⟨t248, A40, H⟩ := H
  replace H : (if t248 = true then ((impl_within.f a1 1 a2).bind fun t249 => (if t249 = true then (some (decide ((wrap64 (a0 * a1)) ≤ a2))) else (some false))) else (some false)) = some r := H
  have A4 := Aside0.mk A40
  clear A40
  by_cases c5 : t248 = true
  · subst c5
    have H1 : ((impl_within.f a1 1 a2).bind fun t249 => (if t249 = true then (some (decide ((wrap64 (a0 * a1)) ≤ a2))) else (some false))) = some r := by rw [if_pos rfl] at H; exact H
    clear H
    have H := H1
    clear H1
    replace H := Option.bind_eq_some_iff.mp H
    obtain ⟨t249, A60, H⟩ := H
    replace H : (if t249 = true then (some (decide ((wrap64 (a0 * a1)) ≤ a2))) else (some false)) = some r := H
    have A6 := Aside0.mk A60
    clear A60
    by_cases c7 : t249 = true
    · subst c7
      have H1 : (some (decide ((wrap64 (a0 * a1)) ≤ a2))) = some r := by rw [if_pos rfl] at H; exact H
      clear H
      have H := H1
      clear H1
      obtain rfl := Option.some.inj H
      go_enter Try.func17, Try.ntmps17
      go_wp2_with (first | ((with_reducible refine gate_callee (f := 30) rfl ?_); refine goesL_ (some 9) rfl rfl Try.func30 (by kernel_rfl) rfl #[.int .i64 a0, .int .i64 1, .int .i64 a2] rfl (by (try simp only [List.map_toArray, List.map_cons, List.map_nil]); first | done | rfl | (simp only [List.length_drop, List.length_take]; rfl)) ?_; (with_reducible refine (impl_within.calls a0 1 a2 true _ A4.out).mono ?_); rintro e w' ⟨rfl, ⟨nd, rfl⟩⟩; refine ⟨_, rfl, ?_⟩) | (go_at_call 30; (with_reducible refine (impl_within.calls a1 1 a2 true _ A6.out).mono ?_); rintro e w' ⟨rfl, ⟨nd, rfl⟩⟩))
      go_ret
      exact ⟨by first | rfl | (simp; done) | (simp [*]; done), by repeat (first | exact Drawn0.refl _ | apply Drawn0.step)⟩
    · replace c7 := Bool.eq_false_iff.mpr c7
      subst c7
      have H1 : (some false) = some r := by rw [if_neg (show ¬ (false = true) by decide)] at H; exact H
      clear H
      have H := H1
      clear H1
      obtain rfl := Option.some.inj H
      go_enter Try.func17, Try.ntmps17
      go_wp2_with (first | ((with_reducible refine gate_callee (f := 30) rfl ?_); refine goesL_ (some 9) rfl rfl Try.func30 (by kernel_rfl) rfl #[.int .i64 a0, .int .i64 1, .int .i64 a2] rfl (by (try simp only [List.map_toArray, List.map_cons, List.map_nil]); first | done | rfl | (simp only [List.length_drop, List.length_take]; rfl)) ?_; (with_reducible refine (impl_within.calls a0 1 a2 true _ A4.out).mono ?_); rintro e w' ⟨rfl, ⟨nd, rfl⟩⟩; refine ⟨_, rfl, ?_⟩) | (go_at_call 30; (with_reducible refine (impl_within.calls a1 1 a2 false _ A6.out).mono ?_); rintro e w' ⟨rfl, ⟨nd, rfl⟩⟩))
      go_ret
      exact ⟨by first | rfl | (simp; done) | (simp [*]; done), by repeat (first | exact Drawn0.refl _ | apply Drawn0.step)⟩
  · replace c5 := Bool.eq_false_iff.mpr c5
    subst c5
    have H1 : (some false) = some r := by rw [if_neg (show ¬ (false = true) by decide)] at H; exact H
    clear H
    have H := H1
    clear H1
    obtain rfl := Option.some.inj H
    go_enter Try.func17, Try.ntmps17
    go_wp2_with (first | ((with_reducible refine gate_callee (f := 30) rfl ?_); refine goesL_ (some 9) rfl rfl Try.func30 (by kernel_rfl) rfl #[.int .i64 a0, .int .i64 1, .int .i64 a2] rfl (by (try simp only [List.map_toArray, List.map_cons, List.map_nil]); first | done | rfl | (simp only [List.length_drop, List.length_take]; rfl)) ?_; (with_reducible refine (impl_within.calls a0 1 a2 false _ A4.out).mono ?_); rintro e w' ⟨rfl, ⟨nd, rfl⟩⟩; refine ⟨_, rfl, ?_⟩))
    go_ret
    exact ⟨by first | rfl | (simp; done) | (simp [*]; done), by repeat (first | exact Drawn0.refl _ | apply Drawn0.step)⟩

/-! ### slices_Clone_int_int: by hand -/
def slices_Clone_int_int.f (l0 : List Int) : Option (List Int) := if l0.length < 17592186044416 then some l0 else none
set_option maxHeartbeats 8000000 in
set_option maxRecDepth 100000 in
theorem slices_Clone_int_int.calls (A0 : Option Addr) (c0 : Nat) (l0 : List Int) (r : List Int) (w : World) (hr0 : Kd.C (Kd.int .i64) w A0 l0.length l0) (hc0 : l0.length ≤ c0) (h : slices_Clone_int_int.f l0 = some r) :
    Calls Try.prog 37 #[.slice A0 l0.length c0] w fun e w' => ∃ v0_ : Value, e = .returned (v0_) ∧ Kd.R (Kd.int .i64) 3 w' w.heap.size (fun _ => True) v0_ r ∧ Below w.heap.size w w' := by
  unfold slices_Clone_int_int.f at h
  by_cases c2 : l0.length < 17592186044416
  · rw [if_pos c2] at h
    obtain rfl := Option.some.inj h
    clear h
    cases A0 with
    | none =>
      have hl : l0.length = 0 := by
        rcases Nat.eq_zero_or_pos l0.length with h0 | h0
        · exact h0
        · obtain ⟨ad, e, _⟩ := hr0.2.2 h0
          cases e
      obtain rfl : l0 = [] := List.length_eq_zero_iff.1 hl
      clear hr0 hl
      have heq : ∀ W, (binOp .eql 22 (.slice none 0 c0) (.slice none 0 0)).run Try.prog W = .ok (.bool true) W := fun W => Lib.run_eql_slice_nil W 22 3 none 0 c0 0 0 Try.underlying22
      show Calls Try.prog 37 #[.slice none 0 c0] w _
      go_enter Try.func37, Try.ntmps37
      go_wp2
      go_ret
      exact ⟨_, rfl, Kd.R_nil _ _ _ _ _, Below.refl _ _⟩
    | some ad =>
      have HR0 := Aside0.mk hr0
      have HC0 := Aside0.mk hc0
      have LMc2 := Aside0.mk c2
      clear hr0 hc0 c2
      have HB := Aside0.mk (Below.refl w.heap.size w)
      have heq : ∀ W, (binOp .eql 22 (.slice (some ad) l0.length c0) (.slice none 0 0)).run Try.prog W = .ok (.bool false) W := fun W => Lib.run_eql_slice_nil W 22 3 (some ad) l0.length c0 0 0 Try.underlying22
      go_enter Try.func37, Try.ntmps37
      go_wp2_with (first | ((with_reducible refine gate_dst (N := 5) rfl ?_); refine Kd.R_lit (Kd.int .i64) _ 3 ?hg (N := 5) ?hd (xs := ([] : List Int)) (inner := []) (ok := fun _ => True) (okp := fun _ => True) ?hr ?hp (fun _ hk => hk) trivial (Below.refl _ _) (Nat.le_refl _) (by simp) ?_; (case hd => rfl); (case hg => rfl); (case hr => first | (go_simp; done) | (go_simp; rfl)); (case hp => exact (Reps.none _ _)); intro v109 w3 ho4 hb hg_ hnew_; clear hg_ hnew_; have n0_ := Aside0.mk (Kd.R_lower ho4 (below_size (by repeat (first | (with_reducible first | exact HB.out | apply below_alloc | apply pw_below_drewN | apply below_drew1) | exact HB.out)))); have n1_ := Aside0.mk (below_step (by repeat (first | (with_reducible first | exact HB.out | apply below_alloc | apply pw_below_drewN | apply below_drew1) | exact HB.out)) hb); clear HB; have HO110 := n0_; have HB := n1_; clear n0_ n1_; clear hb ho4) | ((with_reducible refine gate_builtin (b := .append) (xs := #[.tmp 5, .tmp 6]) rfl ?_); at_builtin; refine Kd.R_append_rows (Kd.int .i64) (w0 := w) w.heap.size rfl (.tmp 5) (.tmp 6) 22 3 (.int .i64 0) 8 rfl Try.underlying22 info3 rfl (by decide) (by omega) v109 [] l0 _ _ _ (fun _ => True) (fun _ => False) rfl rfl ?aO ?aR (fun _ _ h => h) (fun _ h => h.elim) ?aF ?aB ?aS ?aL ?_; (case aR => repeat (first | exact (Kd.C_below HR0.out HB.out) | (with_reducible refine Kd.C_alloc ?_ _) | (with_reducible refine Kd.C_drewN ?_ _) | (with_reducible refine Kd.C_drew ?_))); (case aB => exact (by repeat (first | (with_reducible first | exact HB.out | apply below_alloc | apply pw_below_drewN | apply below_drew1) | exact HB.out))); (case aF => exact (fun _ _ => trivial)); (case aO => exact (by (with_reducible repeat (first | apply Kd.R_alloc | apply Kd.R_drewN | apply Kd.R_drew)); exact HO110.out)); (case aS => exact (below_size (by repeat (first | (with_reducible first | exact HB.out | apply below_alloc | apply pw_below_drewN | apply below_drew1) | exact HB.out)))); (case aL => have := LMc2.out; simp only [List.length_nil]; omega); intro v112 w5 ho hb hg hat; rw [List.nil_append] at ho; have n0_ := Aside0.mk (hb); have n1_ := Aside0.mk (ho); clear HB; clear HO110; have HB := n0_; have HO113 := n1_; clear n0_ n1_; clear ho hb hg hat))
      go_ret
      exact ⟨_, by first | rfl | (simp [errW_none, errW_some] <;> rfl), by (with_reducible repeat (first | apply Kd.R_alloc | apply Kd.R_drewN | apply Kd.R_drew)); exact HO113.out, by repeat (first | (with_reducible first | exact HB.out | apply below_alloc | apply pw_below_drewN | apply below_drew1) | exact HB.out)⟩
  · rw [if_neg c2] at h
    cases h






















/-! ### slices.Sort by the shelf's contract: by hand -/
/-- A list put in order. -/
def putIn (x : Int) : List Int → List Int
  | [] => [x]
  | y :: r => if x ≤ y then x :: y :: r else y :: putIn x r
def inOrder : List Int → List Int
  | [] => []
  | x :: r => putIn x (inOrder r)
theorem putIn_perm (x : Int) : ∀ l : List Int, (putIn x l).Perm (x :: l)
  | [] => .refl _
  | y :: r => by
    unfold putIn
    split
    · exact .refl _
    · exact ((putIn_perm x r).cons y).trans (.swap x y r)
theorem inOrder_perm : ∀ l : List Int, (inOrder l).Perm l
  | [] => .refl _
  | x :: r => (putIn_perm x (inOrder r)).trans ((inOrder_perm r).cons x)
theorem putIn_sorted (x : Int) : ∀ l : List Int, l.Pairwise (· ≤ ·) → (putIn x l).Pairwise (· ≤ ·)
  | [], _ => by simp [putIn]
  | y :: r, h => by
    unfold putIn
    have h1 := List.pairwise_cons.1 h
    split
    · rename_i hxy
      refine List.pairwise_cons.2 ⟨fun z hz => ?_, h⟩
      rcases List.mem_cons.1 hz with rfl | hz
      · exact hxy
      · exact Int.le_trans hxy (h1.1 z hz)
    · rename_i hxy
      refine List.pairwise_cons.2 ⟨fun z hz => ?_, putIn_sorted x r h1.2⟩
      rcases List.mem_cons.1 ((putIn_perm x r).mem_iff.1 hz) with rfl | hz
      · omega
      · exact h1.1 z hz
theorem inOrder_sorted : ∀ l : List Int, (inOrder l).Pairwise (· ≤ ·)
  | [] => List.Pairwise.nil
  | x :: r => putIn_sorted x _ (inOrder_sorted r)
theorem mergeSort_inOrder (l : List Int) : (l.mergeSort fun x y => decide (x ≤ y)) = inOrder l := by
  have h1 := List.pairwise_mergeSort (le := fun x y : Int => decide (x ≤ y)) (by intro a b c h1 h2; simp at h1 h2 ⊢; omega) (by intro a b; simp; omega) l
  have h2 : (l.mergeSort fun x y => decide (x ≤ y)).Perm (inOrder l) := (List.mergeSort_perm l _).trans (inOrder_perm l).symm
  refine h2.eq_of_pairwise (le := (· ≤ ·)) (fun a b _ _ h1 h2 => Int.le_antisymm h1 h2) (h1.imp (fun h => of_decide_eq_true h)) (inOrder_sorted l)
shelf_lay Lays.n189 Nm 189 at Try as Try.lays189


/-! ### impl_sorted: by hand -/
def impl_sorted.f (l : List Int) : Option (List Int) := if 0 < l.length ∧ l.length < 17592186044416 then some (inOrder l) else none
theorem inOrder_length (l : List Int) : (inOrder l).length = l.length := (inOrder_perm l).length_eq
set_option maxRecDepth 100000 in
set_option maxHeartbeats 4000000 in
theorem impl_sorted.calls (A0 : Option Addr) (c0 : Nat) (l0 : List Int) (r : List Int) (w : World) (hr0 : Kd.C (Kd.int .i64) w A0 l0.length l0) (hc0 : l0.length ≤ c0) (h : impl_sorted.f l0 = some r) :
    Calls Try.prog 31 #[.slice A0 l0.length c0] w fun e w' => ∃ v0_ : Value, e = .returned v0_ ∧ Kd.R (Kd.int .i64) 3 w' w.heap.size (fun _ => True) v0_ r ∧ Below w.heap.size w w' := by
  unfold impl_sorted.f at h
  split at h
  case isFalse => cases h
  rename_i hl
  have HL := Aside0.mk hl
  obtain rfl := Option.some.inj h
  have HR := Aside0.mk hr0
  have HC := Aside0.mk hc0
  clear hl hr0 hc0 h
  go_enter Try.func31, Try.ntmps31
  go_wp2_with fail
  refine (slices_Clone_int_int.calls A0 c0 l0 l0 w HR.out HC.out (by unfold slices_Clone_int_int.f; rw [if_pos HL.out.2])).mono ?_
  rintro e w1 ⟨v, rfl, hR, hb⟩
  have HB := Aside0.mk hb
  have hown := Kd.own_of_R hR
  rcases hown.2 with h0 | ⟨g, cap, cur, rfl, hbase, hblk, h1, h2, h3, h4⟩
  · exact absurd h0.2 (by have := HL.out.1; omega)
  have hH := Go.holds_of_blockI (ss := l0) hblk (by rw [Nat.mul_one] at h4; exact h4)
  have H4 := Aside0.mk (Any.slices_Sort_int Try.lays189 g 0 cap l0 w1 hH (blk_lt hblk) (by have := HL.out.2; omega))
  have HO := Aside0.mk (fun (n : Nat) (os : Array Obj) => Go.ownsRow_sortedI (w := w1) (n := n) (os := os) (ss := l0) (ts := inOrder l0) (inOrder_length l0) hbase hblk h1 h2 h3)
  have HG := Aside0.mk hbase
  clear hR hb hown hbase hblk h1 h2 h3 h4 hH
  have HGR := Aside0.mk (fun (n : Nat) (os : Array Obj) => Go.grownBy_sortedI (w := w1) (g := g) (n := n) (os := os) (inOrder l0).toArray)
  go_wp2_with fail
  refine (H4.out).mono ?_
  rintro e w2 ⟨rfl, n, os, hw⟩
  rw [mergeSort_inOrder] at hw
  have hg := HGR.out n os
  have ho := HO.out n os
  rw [← hw] at hg ho
  have HB2 := Aside0.mk (pw_below_grown HB.out (some g) HB.out.size hg (fun k hk => by have := Option.some.inj hk; have := HG.out; omega))
  have HO2 := Aside0.mk ho
  clear hw hg ho HGR HO H4
  go_wp2_with fail
  go_ret
  refine ⟨_, rfl, Kd.R_of_own (enc := Value.int .i64) ?_ (fun _ _ => trivial), HB2.out⟩
  rw [inOrder_length]
  exact HO2.out


/-! ### impl_stabilizers: function 18 -/
def impl_stabilizers.l0 : Nat → Int → List Int → List Int → Int → Int → Option (List Int)
  | 0, _, _, _, _, _ => none
  | k + 1, x1, x5, x9, x10, x11 => if x11 < x10 then (if 0 ≤ x11 then (if x11 < (x9.length : Int) then (if (rd x9 x11) = 0 then (none) else (if x5.length < 17592186044416 then (impl_stabilizers.l0 k x1 (x5 ++ [wrap64 (Int.tdiv x1 (rd x9 x11))]) x9 x10 (wrap64 (x11 + 1))) else (none))) else (none)) else (none)) else ((impl_sorted.f x5).bind fun t257 => (some t257))
def impl_stabilizers.f (k : Nat) (l0 : List Int) (a1 : Int) : Option (List Int) := impl_stabilizers.l0 k a1 (([] : List Int)) l0 (l0.length : Int) 0
set_option maxHeartbeats 8000000 in
set_option maxRecDepth 100000 in
theorem impl_stabilizers.calls (k : Nat) (A0 : Option Addr) (c0 : Nat) (l0 : List Int) (a1 : Int) (r : List Int) (w : World) (hr0 : Kd.C (Kd.int .i64) w A0 l0.length l0) (hc0 : l0.length ≤ c0) (h : impl_stabilizers.f k l0 a1 = some r) :
    Calls Try.prog 18 #[.slice A0 l0.length c0, .int .i64 a1] w fun e w' => ∃ v0_ : Value, e = .returned (v0_) ∧ Kd.R (Kd.int .i64) 3 w' w.heap.size (fun _ => True) v0_ r ∧ Below w.heap.size w w' := by
  have HR0 := Aside0.mk hr0
  have HC0 := Aside0.mk hc0
  clear hr0 hc0
  have HB := Aside0.mk (Below.refl w.heap.size w)
  have H : (impl_stabilizers.l0 k a1 (([] : List Int)) l0 (l0.length : Int) 0) = some r := h
  clear h
  obtain ⟨y250, hy250⟩ : ∃ y_ : List Int, y_ = (([] : List Int)) := ⟨_, rfl⟩
  replace H : (impl_stabilizers.l0 k a1 y250 l0 (l0.length : Int) 0) = some r := by first | (rw [hy250]; with_reducible exact H) | (have H2_ := (Option.bind_some _ _).symm.trans H; rw [hy250]; with_reducible exact H2_) | (have H2_ := (Option.bind_some _ _).symm.trans H; with_reducible exact H2_) | with_reducible exact H | (rw [hy250]; exact H) | exact H
  have Ny250 := Aside0.mk hy250
  clear hy250
  have H' := Aside0.mk H
  clear H
  go_enter Try.func18, Try.ntmps18
  go_wp2_with (first | ((with_reducible refine gate_dst (N := 8) rfl ?_); refine Kd.R_lit (Kd.int .i64) _ 3 ?hg (N := 8) ?hd (xs := ([] : List Int)) (inner := []) (ok := fun _ => True) (okp := fun _ => True) ?hr ?hp (fun _ hk => hk) trivial (Below.refl _ _) (Nat.le_refl _) (by simp) ?_; (case hd => rfl); (case hg => rfl); (case hr => first | (go_simp; done) | (go_simp; rfl)); (case hp => exact (Reps.none _ _)); intro v251 w3 ho4 hb hg_ hnew_; clear hg_ hnew_; (first | rw [← Ny250.out] at ho4 | (simp only [Int.reduceToNat] at ho4; rw [← Ny250.out] at ho4)); have n0_ := Aside0.mk (Kd.R_lower ho4 (below_size (by repeat (first | (with_reducible first | exact HB.out | apply below_alloc | apply pw_below_drewN | apply below_drew1) | exact HB.out)))); have n1_ := Aside0.mk (below_step (by repeat (first | (with_reducible first | exact HB.out | apply below_alloc | apply pw_below_drewN | apply below_drew1) | exact HB.out)) hb); clear HB; have HO252 := n0_; have HB := n1_; clear n0_ n1_; clear hb ho4))
  go_loopg [5, 11] k (fun kq v5 v11 w' => ∃ (x5_1 : List Int) (x11_1 : Int), v11 = .int .i64 x11_1 ∧ Aside0 (impl_stabilizers.l0 kq a1 x5_1 l0 (l0.length : Int) x11_1 = some r) ∧ Aside0 (kq ≤ k) ∧ Aside0 (Kd.R (Kd.int .i64) 3 w' w.heap.size (fun _ => True) v5 x5_1) ∧ Aside0 (Below w.heap.size w w'))
  case atStart => exact ⟨(y250), (0), (by first | rfl | (simp; done) | (simp [*]; done)), H', ⟨Nat.le_refl _⟩, ⟨by (with_reducible repeat (first | apply Kd.R_alloc | apply Kd.R_drewN | apply Kd.R_drew)); exact HO252.out⟩, ⟨by repeat (first | (with_reducible first | exact HB.out | apply below_alloc | apply pw_below_drewN | apply below_drew1) | exact HB.out)⟩⟩
  case round =>
    clear H'
    try clear c1
    try clear p2
    obtain ⟨x5_1, x11_1, rfl, HA, HK1, HO_5, HB⟩ := hrel
    cases gk with
    | zero => exact absurd HA.out (by simp [impl_stabilizers.l0])
    | succ k1 =>
      have H := HA.out
      clear HA
      simp only [impl_stabilizers.l0] at H
      by_cases c5 : x11_1 < (l0.length : Int)
      · rw [if_pos c5] at H
        have c5b0 : decide (x11_1 < (l0.length : Int)) = true := decide_eq_true c5
        clear c5
        by_cases c6 : 0 ≤ x11_1
        · rw [if_pos c6] at H
          have c6b0 : decide (0 ≤ x11_1) = true := decide_eq_true c6
          clear c6
          by_cases c7 : x11_1 < (l0.length : Int)
          · rw [if_pos c7] at H
            have c7b0 : decide (x11_1 < (l0.length : Int)) = true := decide_eq_true c7
            clear c7
            by_cases c8 : (rd l0 x11_1) = 0
            · rw [if_pos c8] at H
              exact absurd H (by simp)
            · rw [if_neg c8] at H
              have c8b0 : ((rd l0 x11_1) == 0) = false := beq_eq_false_iff_ne.mpr c8
              have c8b1 : ((rd l0 x11_1) != 0) = true := bne_iff_ne.mpr c8
              by_cases c9 : x5_1.length < 17592186044416
              · rw [if_pos c9] at H
                have LMc9 := Aside0.mk c9
                clear c9
                obtain ⟨y254, hy254⟩ : ∃ y_ : List Int, y_ = (x5_1 ++ [wrap64 (Int.tdiv a1 (rd l0 x11_1))]) := ⟨_, rfl⟩
                replace H : (impl_stabilizers.l0 k1 a1 y254 l0 (l0.length : Int) (wrap64 (x11_1 + 1))) = some r := by first | (rw [hy254]; with_reducible exact H) | (have H2_ := (Option.bind_some _ _).symm.trans H; rw [hy254]; with_reducible exact H2_) | (have H2_ := (Option.bind_some _ _).symm.trans H; with_reducible exact H2_) | with_reducible exact H | (rw [hy254]; exact H) | exact H
                have Ny254 := Aside0.mk hy254
                clear hy254
                have H' := Aside0.mk H
                clear H
                have p253 : 0 ≤ (x11_1 : Int) := of_decide_eq_true (by first | (with_reducible assumption) | assumption)
                have q253 : x11_1 < (l0.length : Int) := of_decide_eq_true (by first | (with_reducible assumption) | assumption)
                obtain ⟨ad253, e253, hx253_0⟩ := Kd.at_int HR0.out x11_1 p253 q253
                cases e253
                replace hx253_0 := (HB.out.cell (World.block_lt_of_cell? w _ hx253_0)).trans hx253_0
                replace p253 := eq_true p253
                replace q253 := eq_true q253
                go_wp2_with (first | ((with_reducible refine gate_builtin (b := .append) (xs := #[.tmp 15, .tmp 19]) rfl ?_); at_builtin; refine Kd.R_append (Kd.int .i64) (w0 := w) w.heap.size rfl (.tmp 15) (.tmp 19) 22 3 (.int .i64 0) 8 rfl Try.underlying22 info3 rfl (by decide) (by omega) u5 x5_1 (wrap64 (Int.tdiv a1 (rd l0 x11_1))) [.int .i64 (wrap64 (Int.tdiv a1 (rd l0 x11_1)))] (fun _ => True) (fun _ => False) rfl rfl ?aP (fun _ hk => hk.elim) ?aF ?aO ?aB ?aS ?aL ?_; (case aP => exact rfl); (case aB => exact (by repeat (first | (with_reducible first | exact HB.out | apply below_alloc | apply pw_below_drewN | apply below_drew1) | exact HB.out))); (case aF => exact (fun _ _ => trivial)); (case aO => exact (by (with_reducible repeat (first | apply Kd.R_alloc | apply Kd.R_drewN | apply Kd.R_drew)); exact HO_5.out)); (case aS => exact (below_size (by repeat (first | (with_reducible first | exact HB.out | apply below_alloc | apply pw_below_drewN | apply below_drew1) | exact HB.out)))); (case aL => have := LMc9.out; omega); intro v255 w10 ho hb hg hat; rw [← Ny254.out] at ho; have n0_ := Aside0.mk (hb); have n1_ := Aside0.mk (ho); clear HB; clear HO_5; have HB := n0_; have HO256 := n1_; clear n0_ n1_; clear ho hb hg hat))
                go_roundg k1
                case measure => have := HK1.out; omega
                case rel => exact ⟨(y254), (wrap64 (x11_1 + 1)), (by first | rfl | (simp; done) | (simp [*]; done)), H', ⟨by have := HK1.out; omega⟩, ⟨by (with_reducible repeat (first | apply Kd.R_alloc | apply Kd.R_drewN | apply Kd.R_drew)); exact HO256.out⟩, ⟨by repeat (first | (with_reducible first | exact HB.out | apply below_alloc | apply pw_below_drewN | apply below_drew1) | exact HB.out)⟩⟩
              · rw [if_neg c9] at H
                exact absurd H (by simp)
          · rw [if_neg c7] at H
            exact absurd H (by simp)
        · rw [if_neg c6] at H
          exact absurd H (by simp)
      · rw [if_neg c5] at H
        have c5b0 : decide (x11_1 < (l0.length : Int)) = false := decide_eq_false c5
        clear c5
        replace H := Option.bind_eq_some_iff.mp H
        obtain ⟨t257, A110, H⟩ := H
        replace H : (some t257) = some r := H
        have A11 := Aside0.mk A110
        clear A110
        obtain rfl := Option.some.inj H
        obtain ⟨Ao12, co12, eo12⟩ := Kd.R_slice HO_5.out
        subst eo12
        go_wp2_with (first | ((with_reducible refine gate_callee (f := 31) rfl ?_); refine goesL_ (some 23) rfl rfl Try.func31 (by kernel_rfl) rfl #[.slice Ao12 x5_1.length co12] rfl (by (try simp only [List.map_toArray, List.map_cons, List.map_nil]); first | done | rfl | (simp only [List.length_drop, List.length_take]; rfl)) ?_; (with_reducible refine (impl_sorted.calls _ _ x5_1 t257 _ ?side1 ?side2 A11.out).mono ?_); (case side1 => repeat (first | exact (Kd.R_reads' HO_5.out).2.2 | (with_reducible refine Kd.C_alloc ?_ _) | (with_reducible refine Kd.C_drewN ?_ _) | (with_reducible refine Kd.C_drew ?_))); (case side2 => exact (Kd.R_reads' HO_5.out).2.1); rintro e w13 ⟨v258, rfl, ho0, hb⟩; refine ⟨_, rfl, ?_⟩; have n0_ := Aside0.mk (Kd.R_elder' (by (with_reducible repeat (first | apply Kd.R_alloc | apply Kd.R_drewN | apply Kd.R_drew)); exact HO_5.out) (Kd.R_base ho0) hb); have n1_ := Aside0.mk (Kd.R_lower (Kd.R_new' ho0 (Kd.R_lt (by (with_reducible repeat (first | apply Kd.R_alloc | apply Kd.R_drewN | apply Kd.R_drew)); exact HO_5.out))) (below_size (by repeat (first | (with_reducible first | exact HB.out | apply below_alloc | apply pw_below_drewN | apply below_drew1) | exact HB.out)))); have n2_ := Aside0.mk (below_step (by repeat (first | (with_reducible first | exact HB.out | apply below_alloc | apply pw_below_drewN | apply below_drew1) | exact HB.out)) hb); clear HO_5; clear HB; have HO_5 := n0_; have HO259 := n1_; have HB := n2_; clear n0_ n1_ n2_; (try clear hb); (try clear hb2); (try clear hk); (try clear hi); (try clear ho0)))
        go_ret
        exact ⟨_, by first | rfl | (simp [errW_none, errW_some] <;> rfl) | (simp [*, errW_none, errW_some] <;> rfl), by (with_reducible repeat (first | apply Kd.R_alloc | apply Kd.R_drewN | apply Kd.R_drew)); exact Kd.R_mono HO259.out (fun _ hk => trivial), by repeat (first | (with_reducible first | exact HB.out | apply below_alloc | apply pw_below_drewN | apply below_drew1) | exact HB.out)⟩

/-! ### impl_Poset_n: function 52 -/
def impl_Poset_n.f (l0_0 : List Int) : Option (Int) := some (l0_0.length : Int)
set_option maxHeartbeats 8000000 in
set_option maxRecDepth 100000 in
theorem impl_Poset_n.calls (A0_0 : Option Addr) (c0_0 : Nat) (l0_0 : List Int) (r : Int) (w : World) (hr0_0 : Kd.C (Kd.int .i64) w A0_0 l0_0.length l0_0) (hc0_0 : l0_0.length ≤ c0_0) (h : impl_Poset_n.f l0_0 = some r) :
    Calls Try.prog 52 #[.agg #[.slice A0_0 l0_0.length c0_0]] w fun e w' => e = .returned (.int .i64 r) ∧ Below w.heap.size w w' := by
  have hu29 := Try.underlying29
  have HR0_0 := Aside0.mk hr0_0
  have HC0_0 := Aside0.mk hc0_0
  clear hr0_0 hc0_0
  have HB := Aside0.mk (Below.refl w.heap.size w)
  have H : (some (l0_0.length : Int)) = some r := h
  clear h
  obtain rfl := Option.some.inj H
  go_enter Try.func52, Try.ntmps52
  go_wp2_with (first | ((with_reducible refine gate_dst (N := 1) rfl ?_); refine box_event ?hg (N := 1) ?hd (cs := #[.slice A0_0 l0_0.length c0_0]) (t := 29) ?hr ?_; (case hd => rfl); (case hg => rfl); (case hr => first | (go_simp; done) | (go_simp; rfl)); intro gb260 hg w2 hbox hb; have n0_ := Aside0.mk (below_step (by repeat (first | (with_reducible first | exact HB.out | apply below_alloc | apply pw_below_drewN | apply below_drew1) | exact HB.out)) hb); have n1_ := Aside0.mk (hbox); have n2_ := Aside0.mk ((by rw [hg]; exact (below_size (by repeat (first | (with_reducible first | exact HB.out | apply below_alloc | apply pw_below_drewN | apply below_drew1) | exact HB.out))) : w.heap.size ≤ gb260)); have n3_ := Aside0.mk ((by rw [hg]; exact (below_size (by repeat (first | (with_reducible first | exact HB.out | apply below_alloc | apply pw_below_drewN | apply below_drew1) | exact HB.out))) : w.heap.size ≤ gb260)); clear HB; have HB := n0_; have BK260 := n1_; have GW260 := n2_; have GE260 := n3_; clear n0_ n1_ n2_ n3_; clear hb hbox hg; have hcz3_0 : w2.cell? ⟨gb260, 0, none⟩ = some (.slice A0_0 l0_0.length c0_0) := (blk_cell BK260.out 0).trans rfl; have hfz3_0 := blk_frozen BK260.out 0))
  go_ret
  exact ⟨by first | rfl | (simp [errW_none, errW_some] <;> rfl) | (simp [*, errW_none, errW_some] <;> rfl), by repeat (first | (with_reducible first | exact HB.out | apply below_alloc | apply pw_below_drewN | apply below_drew1 | refine below_set ?_ GE260.out) | exact HB.out)⟩

/-! ### impl_has: function 69 -/
def impl_has.f (a0 : Int) (a1 : Int) : Option (Bool) := if 0 ≤ a1 then (some ((Go.bits .and .i64 (shr .i64 a0 a1) 1) == 1)) else (none)
set_option maxHeartbeats 8000000 in
set_option maxRecDepth 100000 in
theorem impl_has.calls (a0 : Int) (a1 : Int) (r : Bool) (w : World) (h : impl_has.f a0 a1 = some r) :
    Calls Try.prog 69 #[.int .i64 a0, .int .i64 a1] w fun e w' => e = .returned (.bool r) ∧ Drawn0 w w' := by
  have H : (if 0 ≤ a1 then (some ((Go.bits .and .i64 (shr .i64 a0 a1) 1) == 1)) else (none)) = some r := h
  clear h
  by_cases c3 : 0 ≤ a1
  · rw [if_pos c3] at H
    have c3b0 := eq_true c3
    have c3b1 : decide (0 ≤ a1) = true := decide_eq_true c3
    clear c3
    obtain ⟨ji4, hji4⟩ : ∃ j_ : Int, (shr .i64 a0 a1) = j_ := ⟨_, rfl⟩
    replace H : (some ((Go.bits .and .i64 (ji4) 1) == 1)) = some r := by first | (rw [hji4] at H; exact H) | (simp only [hji4] at H ⊢; exact H)
    have hji4_ : (a0 / 2 ^ min a1.toNat 64) = ji4 := hji4
    have hji4z : a1 ≤ 64 → (a0 / 2 ^ a1.toNat) = ji4 := shr_small hji4
    obtain rfl := Option.some.inj H
    go_enter Try.func69, Try.ntmps69
    go_wp2
    go_ret
    exact ⟨by first | rfl | (simp; done) | (simp only [← hji4] <;> (first | rfl | simp)) | (simp [*]; done), by repeat (first | exact Drawn0.refl _ | apply Drawn0.step)⟩
  · rw [if_neg c3] at H
    exact absurd H (by simp)

/-! ### impl_items: function 65 -/
def impl_items.l0 : Nat → Int → List Int → Int → Option (List Int)
  | 0, _, _, _ => none
  | k + 1, x0, x3, x6 => if x6 < 10 then ((impl_has.f x0 x6).bind fun t264 => (if t264 = true then (if x3.length < 17592186044416 then (impl_items.l0 k x0 (x3 ++ [x6]) (wrap64 (x6 + 1))) else (none)) else (impl_items.l0 k x0 x3 (wrap64 (x6 + 1))))) else (some x3)
def impl_items.f (k : Nat) (a0 : Int) : Option (List Int) := impl_items.l0 k a0 (([] : List Int)) 0
set_option maxHeartbeats 8000000 in
set_option maxRecDepth 100000 in
theorem impl_items.calls (k : Nat) (a0 : Int) (r : List Int) (w : World) (h : impl_items.f k a0 = some r) :
    Calls Try.prog 65 #[.int .i64 a0] w fun e w' => ∃ v0_ : Value, e = .returned (v0_) ∧ Kd.R (Kd.int .i64) 3 w' w.heap.size (fun _ => True) v0_ r ∧ Below w.heap.size w w' := by
  have HB := Aside0.mk (Below.refl w.heap.size w)
  have H : (impl_items.l0 k a0 (([] : List Int)) 0) = some r := h
  clear h
  obtain ⟨y261, hy261⟩ : ∃ y_ : List Int, y_ = (([] : List Int)) := ⟨_, rfl⟩
  replace H : (impl_items.l0 k a0 y261 0) = some r := by first | (rw [hy261]; with_reducible exact H) | (have H2_ := (Option.bind_some _ _).symm.trans H; rw [hy261]; with_reducible exact H2_) | (have H2_ := (Option.bind_some _ _).symm.trans H; with_reducible exact H2_) | with_reducible exact H | (rw [hy261]; exact H) | exact H
  have Ny261 := Aside0.mk hy261
  clear hy261
  have H' := Aside0.mk H
  clear H
  go_enter Try.func65, Try.ntmps65
  go_wp2_with (first | ((with_reducible refine gate_dst (N := 5) rfl ?_); refine Kd.R_lit (Kd.int .i64) _ 3 ?hg (N := 5) ?hd (xs := ([] : List Int)) (inner := []) (ok := fun _ => True) (okp := fun _ => True) ?hr ?hp (fun _ hk => hk) trivial (Below.refl _ _) (Nat.le_refl _) (by simp) ?_; (case hd => rfl); (case hg => rfl); (case hr => first | (go_simp; done) | (go_simp; rfl)); (case hp => exact (Reps.none _ _)); intro v262 w2 ho3 hb hg_ hnew_; clear hg_ hnew_; (first | rw [← Ny261.out] at ho3 | (simp only [Int.reduceToNat] at ho3; rw [← Ny261.out] at ho3)); have n0_ := Aside0.mk (Kd.R_lower ho3 (below_size (by repeat (first | (with_reducible first | exact HB.out | apply below_alloc | apply pw_below_drewN | apply below_drew1) | exact HB.out)))); have n1_ := Aside0.mk (below_step (by repeat (first | (with_reducible first | exact HB.out | apply below_alloc | apply pw_below_drewN | apply below_drew1) | exact HB.out)) hb); clear HB; have HO263 := n0_; have HB := n1_; clear n0_ n1_; clear hb ho3))
  go_loopg [3, 6] k (fun kq v3 v6 w' => ∃ (x3_1 : List Int) (x6_1 : Int), v6 = .int .i64 x6_1 ∧ Aside0 (impl_items.l0 kq a0 x3_1 x6_1 = some r) ∧ Aside0 (kq ≤ k) ∧ Aside0 (Kd.R (Kd.int .i64) 3 w' w.heap.size (fun _ => True) v3 x3_1) ∧ Aside0 (Below w.heap.size w w'))
  case atStart => exact ⟨(y261), (0), (by first | rfl | (simp; done) | (simp [*]; done)), H', ⟨Nat.le_refl _⟩, ⟨by (with_reducible repeat (first | apply Kd.R_alloc | apply Kd.R_drewN | apply Kd.R_drew)); exact HO263.out⟩, ⟨by repeat (first | (with_reducible first | exact HB.out | apply below_alloc | apply pw_below_drewN | apply below_drew1) | exact HB.out)⟩⟩
  case round =>
    clear H'
    try clear p2
    obtain ⟨x3_1, x6_1, rfl, HA, HK1, HO_3, HB⟩ := hrel
    cases gk with
    | zero => exact absurd HA.out (by simp [impl_items.l0])
    | succ k1 =>
      have H := HA.out
      clear HA
      simp only [impl_items.l0] at H
      by_cases c4 : x6_1 < 10
      · rw [if_pos c4] at H
        have c4b0 : decide (x6_1 < 10) = true := decide_eq_true c4
        clear c4
        replace H := Option.bind_eq_some_iff.mp H
        obtain ⟨t264, A50, H⟩ := H
        replace H : (if t264 = true then (if x3_1.length < 17592186044416 then (impl_items.l0 k1 a0 (x3_1 ++ [x6_1]) (wrap64 (x6_1 + 1))) else (none)) else (impl_items.l0 k1 a0 x3_1 (wrap64 (x6_1 + 1)))) = some r := H
        have A5 := Aside0.mk A50
        clear A50
        by_cases c6 : t264 = true
        · subst c6
          have H1 : (if x3_1.length < 17592186044416 then (impl_items.l0 k1 a0 (x3_1 ++ [x6_1]) (wrap64 (x6_1 + 1))) else (none)) = some r := by rw [if_pos rfl] at H; exact H
          clear H
          have H := H1
          clear H1
          by_cases c7 : x3_1.length < 17592186044416
          · rw [if_pos c7] at H
            have LMc7 := Aside0.mk c7
            clear c7
            obtain ⟨y265, hy265⟩ : ∃ y_ : List Int, y_ = (x3_1 ++ [x6_1]) := ⟨_, rfl⟩
            replace H : (impl_items.l0 k1 a0 y265 (wrap64 (x6_1 + 1))) = some r := by first | (rw [hy265]; with_reducible exact H) | (have H2_ := (Option.bind_some _ _).symm.trans H; rw [hy265]; with_reducible exact H2_) | (have H2_ := (Option.bind_some _ _).symm.trans H; with_reducible exact H2_) | with_reducible exact H | (rw [hy265]; exact H) | exact H
            have Ny265 := Aside0.mk hy265
            clear hy265
            have H' := Aside0.mk H
            clear H
            go_wp2_with (first | ((with_reducible refine gate_callee (f := 69) rfl ?_); refine goesL_ (some 11) rfl rfl Try.func69 (by kernel_rfl) rfl #[.int .i64 a0, .int .i64 x6_1] rfl (by (try simp only [List.map_toArray, List.map_cons, List.map_nil]); first | done | rfl | (simp only [List.length_drop, List.length_take]; rfl)) ?_; (with_reducible refine (impl_has.calls a0 x6_1 true _ A5.out).mono ?_); rintro e w' ⟨rfl, ⟨nd, rfl⟩⟩; refine ⟨_, rfl, ?_⟩) | ((with_reducible refine gate_builtin (b := .append) (xs := #[.tmp 12, .tmp 14]) rfl ?_); at_builtin; refine Kd.R_append (Kd.int .i64) (w0 := w) w.heap.size rfl (.tmp 12) (.tmp 14) 22 3 (.int .i64 0) 8 rfl Try.underlying22 info3 rfl (by decide) (by omega) u3 x3_1 x6_1 [.int .i64 x6_1] (fun _ => True) (fun _ => False) rfl rfl ?aP (fun _ hk => hk.elim) ?aF ?aO ?aB ?aS ?aL ?_; (case aP => exact rfl); (case aB => exact (by repeat (first | (with_reducible first | exact HB.out | apply below_alloc | apply pw_below_drewN | apply below_drew1) | exact HB.out))); (case aF => exact (fun _ _ => trivial)); (case aO => exact (by (with_reducible repeat (first | apply Kd.R_alloc | apply Kd.R_drewN | apply Kd.R_drew)); exact HO_3.out)); (case aS => exact (below_size (by repeat (first | (with_reducible first | exact HB.out | apply below_alloc | apply pw_below_drewN | apply below_drew1) | exact HB.out)))); (case aL => have := LMc7.out; omega); intro v266 w8 ho hb hg hat; rw [← Ny265.out] at ho; have n0_ := Aside0.mk (hb); have n1_ := Aside0.mk (ho); clear HB; clear HO_3; have HB := n0_; have HO267 := n1_; clear n0_ n1_; clear ho hb hg hat))
            go_roundg k1
            case measure => have := HK1.out; omega
            case rel => exact ⟨(y265), (wrap64 (x6_1 + 1)), (by first | rfl | (simp; done) | (simp [*]; done)), H', ⟨by have := HK1.out; omega⟩, ⟨by (with_reducible repeat (first | apply Kd.R_alloc | apply Kd.R_drewN | apply Kd.R_drew)); exact HO267.out⟩, ⟨by repeat (first | (with_reducible first | exact HB.out | apply below_alloc | apply pw_below_drewN | apply below_drew1) | exact HB.out)⟩⟩
          · rw [if_neg c7] at H
            exact absurd H (by simp)
        · replace c6 := Bool.eq_false_iff.mpr c6
          subst c6
          have H1 : (impl_items.l0 k1 a0 x3_1 (wrap64 (x6_1 + 1))) = some r := by rw [if_neg (show ¬ (false = true) by decide)] at H; exact H
          clear H
          have H := H1
          clear H1
          have H' := Aside0.mk H
          clear H
          go_wp2_with (first | ((with_reducible refine gate_callee (f := 69) rfl ?_); refine goesL_ (some 11) rfl rfl Try.func69 (by kernel_rfl) rfl #[.int .i64 a0, .int .i64 x6_1] rfl (by (try simp only [List.map_toArray, List.map_cons, List.map_nil]); first | done | rfl | (simp only [List.length_drop, List.length_take]; rfl)) ?_; (with_reducible refine (impl_has.calls a0 x6_1 false _ A5.out).mono ?_); rintro e w' ⟨rfl, ⟨nd, rfl⟩⟩; refine ⟨_, rfl, ?_⟩))
          go_roundg k1
          case measure => have := HK1.out; omega
          case rel => exact ⟨(x3_1), (wrap64 (x6_1 + 1)), (by first | rfl | (simp; done) | (simp [*]; done)), H', ⟨by have := HK1.out; omega⟩, ⟨by (with_reducible repeat (first | apply Kd.R_alloc | apply Kd.R_drewN | apply Kd.R_drew)); exact HO_3.out⟩, ⟨by repeat (first | (with_reducible first | exact HB.out | apply below_alloc | apply pw_below_drewN | apply below_drew1) | exact HB.out)⟩⟩
      · rw [if_neg c4] at H
        have c4b0 : decide (x6_1 < 10) = false := decide_eq_false c4
        clear c4
        obtain rfl := Option.some.inj H
        go_wp2
        go_ret
        exact ⟨_, by first | rfl | (simp [errW_none, errW_some] <;> rfl) | (simp [*, errW_none, errW_some] <;> rfl), by (with_reducible repeat (first | apply Kd.R_alloc | apply Kd.R_drewN | apply Kd.R_drew)); exact HO_3.out, by repeat (first | (with_reducible first | exact HB.out | apply below_alloc | apply pw_below_drewN | apply below_drew1) | exact HB.out)⟩

end Go.Proofs.Ytbmdbeboegdcaaa.PPg
