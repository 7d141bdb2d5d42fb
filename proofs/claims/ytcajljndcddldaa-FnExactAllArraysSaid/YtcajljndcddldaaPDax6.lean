-- Written for this claim by wip/gprint.py, out of the translation and of hand-written parts.
import Derived.Test.YtcajljndcddldaaPDax0
import Derived.Test.YtcajljndcddldaaPDax4
import Derived.Test.YtcajljndcddldaaPDax5
namespace Go.Proofs.Ytcajljndcddldaa.PDa
open Go.RowKit Go.Proofs.YtcajljndcddldaaW.PrintWords Go.Proofs.YtcajljndcddldaaW.PrintLast Go.Proofs.YtcajljndcddldaaW.PrintMore
attribute [local go_sem] max2_int min2_int max_two min_two max_three min_three max_four min_four   -- for this text's walks alone
set_option linter.unusedVariables false
set_option linter.unusedSimpArgs false

attribute [local go_sem] max2_int max_two
def impl_Poset_labels_1.least (fs : List Int) (es : List Int) (a : Int) : Option Int := es.foldlM (fun a j => if 0 ≤ j ∧ j < (fs.length : Int) then some (if a < rd fs j then rd fs j else a) else none) a
def impl_Poset_labels_1.f : Nat → List Int → Int → Int → List (List Int) → List Int → Option (List (List Int) × List Int)
  | 0, _, _, _, _, _ => none
  | k + 1, l, m, i, outs, fs => if i = (l.length : Int) then (if fs.length < 17592186044416 then (if outs.length + 1 < 5864062014805 then some (outs ++ [fs], fs) else none) else none)
      else if 0 ≤ i ∧ i < (l.length : Int) then (impl_items.f k (rd l i)).bind fun es => if es.length < 17592186044416 then (impl_Poset_labels_1.least fs es 0).bind fun lo => if m < 9223372036854775807 ∧ 0 ≤ lo ∧ i < (fs.length : Int) then (List.range (m + 1 - lo).toNat).foldlM (fun (st : List (List Int) × List Int) (j : Nat) => impl_Poset_labels_1.f k l m (wrap64 (i + 1)) st.1 (st.2.set i.toNat (lo + (j : Int)))) (outs, fs) else none else none else none

/-- What the closure of labels finds and leaves: the five variables that it captured, the list of lists and the list of its own. -/
structure LabSt (w0 W : World) (okx : Nat → Prop) (gp go gw gm gf : Nat) (A : Option Addr) (c : Nat) (l : List Int) (m : Int) (vo vw : Value) (outs : List (List Int)) (ws : List Int) : Prop where
  hp : W.heap[gp]? = some (.cells #[.slice A l.length c] 29 (0, 0))
  ho : W.heap[go]? = some (.cells #[vo] 26 (0, 0))
  hw : W.heap[gw]? = some (.cells #[vw] 22 (0, 0))
  hm : W.heap[gm]? = some (.cells #[.int .i64 m] 3 (0, 0))
  hf : W.heap[gf]? = some (.cells #[.func (.func 92) #[] #[.pointer (some ⟨gp, 0, none⟩), .pointer (some ⟨go, 0, none⟩), .pointer (some ⟨gw, 0, none⟩), .pointer (some ⟨gm, 0, none⟩), .pointer (some ⟨gf, 0, none⟩)]] 92 (0, 0))
  so : Kd.S (Kd.slice 3 (Kd.int .i64)) 22 W w0.heap.size (fun k_ => okx k_ ∧ k_ ≠ gw ∧ some k_ ≠ vw.ownBlock) vo outs
  rw_ : Kd.R (Kd.int .i64) 3 W w0.heap.size (fun k_ => okx k_) vw ws
  go0 : w0.heap.size ≤ go
  below : Below w0.heap.size w0 W
  nm : ∀ k, okx k → k ≠ gm
  fresh : ∀ k, W.heap.size ≤ k → okx k
theorem LabSt.keep {w0 W W1 : World} {okx : Nat → Prop} {gp go gw gm gf : Nat} {A : Option Addr} {c : Nat} {l : List Int} {m : Int} {vo vw : Value} {outs : List (List Int)} {ws : List Int} (h : LabSt w0 W okx gp go gw gm gf A c l m vo vw outs ws) (hb : Below W.heap.size W W1) : LabSt w0 W1 okx gp go gw gm gf A c l m vo vw outs ws :=
  ⟨blk_below h.hp hb, blk_below h.ho hb, blk_below h.hw hb, blk_below h.hm hb, blk_below h.hf hb, Kd.S_below h.so hb, Kd.R_below h.rw_ hb, h.go0, below_step h.below hb, h.nm, fun k hk => h.fresh k (Nat.le_trans hb.size hk)⟩
section
variable {w0 W W1 W2 W3 : World} {okx : Nat → Prop} {gp go gw gm gf : Nat} {A Aw Ac : Option Addr} {c cw cc n : Nat} {l : List Int} {m : Int} {vo vw v1 : Value} {outs outs1 : List (List Int)} {ws ws1 : List Int}
theorem lab_app (h : LabSt w0 W okx gp go gw gm gf A c l m vo vw outs ws) (hb : Below W.heap.size W W2) (hR : Kd.R (Kd.int .i64) 3 W2 W.heap.size (fun _ => True) (.slice Ac ws.length cc) ws) :
    (Kd.slice 3 (Kd.int .i64)).M W2 w0.heap.size (fun k_ => some k_ = (Value.slice Ac ws.length cc).ownBlock) ws [.slice Ac ws.length cc] ∧
    (∀ k_, some k_ = (Value.slice Ac ws.length cc).ownBlock → (okx k_ ∧ k_ ≠ gw ∧ some k_ ≠ vw.ownBlock) ∧ some k_ ≠ vo.ownBlock) ∧
    Kd.S (Kd.slice 3 (Kd.int .i64)) 22 W2 w0.heap.size (fun k_ => (okx k_ ∧ k_ ≠ gw ∧ some k_ ≠ vw.ownBlock) ∧ ¬ some k_ = (Value.slice Ac ws.length cc).ownBlock) vo outs := by
  have hlt := h.below.size
  have hge : ∀ k_, some k_ = (Value.slice Ac ws.length cc).ownBlock → W.heap.size ≤ k_ := fun k_ e => Kd.R_base hR k_ e.symm
  refine ⟨Kd.M_row (Kd.R_lower (Kd.R_tight rfl hR) hlt), fun k_ e => ⟨⟨h.fresh k_ (hge k_ e), fun e2 => ?_, fun e2 => ?_⟩, fun e2 => ?_⟩, Kd.S_elder' h.so (Kd.R_base hR) hb⟩
  · have := hge k_ e; have := blk_lt h.hw; omega
  · have := hge k_ e; have := Kd.R_lt h.rw_ k_ e2.symm; omega
  · have := hge k_ e; have := Kd.S_lt h.so k_ e2.symm; omega
theorem lab_out (h : LabSt w0 W okx gp go gw gm gf A c l m vo vw outs ws) (hb : Below W.heap.size W W2) (hS : Kd.S (Kd.slice 3 (Kd.int .i64)) 22 W3 w0.heap.size (fun k_ => okx k_ ∧ k_ ≠ gw ∧ some k_ ≠ vw.ownBlock) v1 outs1)
    (hB : Below w0.heap.size w0 W3) (hg : W2.grownBy W3 vo.ownBlock) : LabSt w0 (W3.setCell ⟨go, 0, none⟩ v1) okx gp go gw gm gf A c l m v1 vw outs1 ws ∧ Kept W (W3.setCell ⟨go, 0, none⟩ v1) (fun k_ => k_ = go ∨ okx k_) := by
  have h2 := h.keep hb
  have n1 : gp ≠ go := blk_ne h.hp h.ho (by decide)
  have n2 : gw ≠ go := blk_ne h.hw h.ho (by decide)
  have n3 : gf ≠ go := blk_ne h.hf h.ho (by decide)
  have n4 : gm ≠ go := blk_ne h.hm h.ho (by decide)
  have hrow : ∀ k, vo.ownBlock = some k → okx k ∧ k ≠ gw := fun k e => ⟨(Kd.S_R h2.so).1 k e |>.1, (Kd.S_R h2.so).1 k e |>.2.1⟩
  have p1 := blk_grown h2.hp hg (Kd.S_ne h2.so h2.hp (by decide))
  have p2 := blk_grown h2.ho hg (Kd.S_ne h2.so h2.ho (by decide))
  have p3 := blk_grown h2.hw hg (Kd.S_away h2.so (fun k hk => hk.2.1))
  have p4 := blk_grown h2.hf hg (Kd.S_ne h2.so h2.hf (by decide))
  have p5 := blk_grown h2.hm hg (Kd.S_ne h2.so h2.hm (by decide))
  have hsz : W.heap.size ≤ W3.heap.size := Nat.le_trans hb.size hg.size
  refine ⟨⟨blk_far p1 n1 _, by simpa using blk_set p2 0 v1, blk_far p3 n2 _, blk_far p5 n4 _, blk_far p4 n3 _, Kd.S_set hS p2 (by decide) 0 v1, ?_, h.go0, hB.setCell h.go0 _, h.nm, fun k hk => h.fresh k (by simp [World.setCell] at hk; omega)⟩, ?_⟩
  · refine Kd.R_set (t := 26) ?_ p2 (by decide) 0 v1
    exact Kd.R_mono (Kd.R_grown (Kd.R_apart' h2.rw_ (Kd.S_typed h2.so) (by decide)) hg (fun k hk => hk.2)) (fun k hk => hk.1)
  · exact Kept.setCell (Kept.of_grown hg (Kept.below (Kept.refl W _) hb) (fun k e => .inl (.inr (hrow k e).1))) (.inl (.inl rfl)) _
/-- An element of the list is written. -/
theorem lab_put {g : Nat} (h : LabSt w0 W okx gp go gw gm gf A c l m vo (.slice (some ⟨g, 0, none⟩) n cw) outs ws) (i y : Int) :
    LabSt w0 (W.setCell ⟨g, i.toNat, none⟩ (.int .i64 y)) okx gp go gw gm gf A c l m vo (.slice (some ⟨g, 0, none⟩) n cw) outs (ws.set i.toNat y) ∧ Kept W (W.setCell ⟨g, i.toNat, none⟩ (.int .i64 y)) (fun k_ => k_ = go ∨ okx k_) := by
  have hP := Kd.R_putg h.rw_ i y
  have hok : okx g := h.rw_.1 g rfl
  have ne : ∀ {g2 t : Nat} {cs : Array Value}, W.heap[g2]? = some (.cells cs t (0, 0)) → 3 ≠ t → some g2 ≠ some g := fun h2 ht => Kd.R_ne h.rw_ h2 ht
  have nm : some gm ≠ some g := fun e => h.nm g hok (Option.some.inj e).symm
  refine ⟨⟨blk_grown h.hp hP.2 (ne h.hp (by decide)), blk_grown h.ho hP.2 (ne h.ho (by decide)), blk_grown h.hw hP.2 (ne h.hw (by decide)), blk_grown h.hm hP.2 nm, blk_grown h.hf hP.2 (ne h.hf (by decide)), Kd.S_grown h.so hP.2 (fun k hk => hk.2.2), hP.1, h.go0, h.below.setCell (Kd.R_base h.rw_ g rfl) _, h.nm, fun k hk => h.fresh k (Nat.le_trans hP.2.size hk)⟩, ?_⟩
  exact Kept.setCell (Kept.refl W _) (.inl (.inr hok)) _
theorem LabSt.narrow {ve : Value} {es : List Int} {okv : Nat → Prop} (h : LabSt w0 W okx gp go gw gm gf A c l m vo vw outs ws) (hb : Below W.heap.size W W1)
    (he : Kd.R (Kd.int .i64) 3 W1 W.heap.size okv ve es) : LabSt w0 W1 (fun k => okx k ∧ some k ≠ ve.ownBlock) gp go gw gm gf A c l m vo vw outs ws ∧ Kd.R (Kd.int .i64) 3 W1 w0.heap.size (fun k => some k = ve.ownBlock ∧ k ≠ go) ve es := by
  have hge := Kd.R_base he
  have hlt := Kd.R_lt he
  have h1 := blk_lt h.ho
  have h2 := blk_lt h.hw
  refine ⟨⟨blk_below h.hp hb, blk_below h.ho hb, blk_below h.hw hb, blk_below h.hm hb, blk_below h.hf hb, Kd.S_mono (Kd.S_elder' h.so hge hb) (fun k hk => ⟨⟨hk.1.1, hk.2⟩, hk.1.2.1, hk.1.2.2⟩), Kd.R_mono (Kd.R_elder' h.rw_ hge hb) (fun k hk => ⟨hk.1, hk.2⟩), h.go0, below_step h.below hb, fun k hk => h.nm k hk.1, fun k hk => ⟨h.fresh k (Nat.le_trans hb.size hk), fun e => ?_⟩⟩, ?_⟩
  · have := hlt k e.symm
    omega
  · exact Kd.R_mono (Kd.R_lower (Kd.R_tight rfl he) h.below.size) (fun k e => ⟨e, by have := hge k e.symm; omega⟩)
theorem LabSt.wide {b : Option Nat} (h : LabSt w0 W (fun k => okx k ∧ some k ≠ b) gp go gw gm gf A c l m vo vw outs ws) (hn : ∀ k, okx k → k ≠ gm) : LabSt w0 W okx gp go gw gm gf A c l m vo vw outs ws :=
  ⟨h.hp, h.ho, h.hw, h.hm, h.hf, Kd.S_mono h.so (fun k hk => ⟨hk.1.1, hk.2⟩), Kd.R_mono h.rw_ (fun k hk => hk.1), h.go0, h.below, hn, fun k hk => (h.fresh k hk).1⟩
end
set_option maxRecDepth 100000 in
set_option maxHeartbeats 4000000 in
theorem impl_Poset_labels_1.calls (w0 : World) (gp go gw gm gf : Nat) (A : Option Addr) (c : Nat) (l : List Int) (m : Int) (g n cw : Nat) (hr : Kd.C (Kd.int .i64) w0 A l.length l) (hc : l.length ≤ c) :
    ∀ (k : Nat) (i : Int) (W : World) (okx : Nat → Prop) (vo : Value) (outs outs' : List (List Int)) (fs fs' : List Int), LabSt w0 W okx gp go gw gm gf A c l m vo (.slice (some ⟨g, 0, none⟩) n cw) outs fs → impl_Poset_labels_1.f k l m i outs fs = some (outs', fs') →
      Calls Try.prog 92 #[.int .i64 i, .pointer (some ⟨gp, 0, none⟩), .pointer (some ⟨go, 0, none⟩), .pointer (some ⟨gw, 0, none⟩), .pointer (some ⟨gm, 0, none⟩), .pointer (some ⟨gf, 0, none⟩)] W
        fun e W' => e = .returned (.tuple #[]) ∧ ∃ vo', LabSt w0 W' okx gp go gw gm gf A c l m vo' (.slice (some ⟨g, 0, none⟩) n cw) outs' fs' ∧ Kept W W' (fun k_ => k_ = go ∨ okx k_) := by
  intro k
  induction k with
  | zero => intro i W okx vo outs outs' fs fs' _ h; simp [impl_Poset_labels_1.f] at h
  | succ k ih =>
    intro i W okx vo outs outs' fs fs' hst h
    simp only [impl_Poset_labels_1.f] at h
    have HST := Aside0.mk hst
    have HIH := Aside0.mk ih
    have hz1 : W.cell? ⟨gp, 0, none⟩ = some (.slice A l.length c) := (blk_cell hst.hp 0).trans rfl
    have HR := Aside0.mk hr
    have HC := Aside0.mk hc
    have HN := Aside0.mk (show n = fs.length from (Kd.R_reads' hst.rw_).1)
    clear ih hr hc hst
    have hu29 := Try.underlying29
    by_cases hs : i = (l.length : Int)
    · rw [if_pos hs] at h
      split at h
      case isFalse => cases h
      rename_i hl1
      split at h
      case isFalse => cases h
      rename_i hl2
      simp only [Option.some.injEq, Prod.mk.injEq] at h
      obtain ⟨rfl, rfl⟩ := h
      have L1 := Aside0.mk hl1
      have L2 := Aside0.mk hl2
      clear hl1 hl2
      have hb0 : (i == (l.length : Int)) = true := beq_iff_eq.mpr hs
      clear hs
      go_enter Try.func92, Try.ntmps92
      go_wp2_with fail
      refine (impl_Poset_n.calls _ _ l (l.length : Int) _ ?s1 ?s2 rfl).mono ?_
      case s1 => exact Kd.C_below HR.out HST.out.below
      case s2 => exact HC.out
      rintro e w1 ⟨rfl, hb⟩
      have HST1 := Aside0.mk (LabSt.keep HST.out hb)
      have KP1 := Aside0.mk (Kept.below (Kept.refl W (fun k_ => k_ = go ∨ okx k_)) (below_drew hb))
      clear HST hb
      have hlo := blk_lt HST1.out.ho
      have hlw := blk_lt HST1.out.hw
      have hz2 : w1.cell? ⟨go, 0, none⟩ = some vo := (blk_cell HST1.out.ho 0).trans rfl
      have hz3 : w1.cell? ⟨gw, 0, none⟩ = some (.slice (some ⟨g, 0, none⟩) n cw) := (blk_cell HST1.out.hw 0).trans rfl
      go_wp2_with fail
      have FRESH := Aside0.mk (show ∀ k_, w1.heap.size ≤ k_ → okx k_ ∧ k_ ≠ gw ∧ some k_ ≠ (Value.slice (some ⟨g, 0, none⟩) n cw).ownBlock from fun k_ hk => ⟨HST1.out.fresh k_ hk, by have := blk_lt HST1.out.hw; omega, fun e_ => by have := Kd.R_lt HST1.out.rw_ k_ e_.symm; omega⟩)
      refine start_ (n := 6) (S := fun w' => w'.cell? ⟨go, 0, none⟩ = some vo ∧ w'.cell? ⟨gw, 0, none⟩ = some (.slice (some ⟨g, 0, none⟩) n cw)) (ds := [5]) #[false, false, false, false, false, false] (by kernel_rfl) rfl rfl ⟨hz2, hz3⟩ (fun hHeld => ?_)
      refine take_ (i := 0) (N := some 15) (v := ?_) (a' := ?_) #[true, false, false, false, false, false] rfl rfl (by kernel_rfl) (fun _ _ _ h => h) (Or.inl ⟨by rfl, ?_⟩) hHeld ?_ ?_
      rotate_left
      · rintro w' ⟨s0, s1⟩
        go_simp
        with_reducible rfl
      rotate_left
      · simp only [Act.put, List.setIfInBounds_toArray, List.set_cons_zero, List.set_cons_succ, i64_w, i32_w]
        rfl
      refine take_ (i := 1) (N := some 16) (v := ?_) (a' := ?_) #[true, true, false, false, false, false] rfl rfl (by kernel_rfl) (fun _ _ _ h => h) (Or.inl ⟨by rfl, ?_⟩) hHeld ?_ ?_
      rotate_left
      · rintro w' ⟨s0, s1⟩
        go_simp
        with_reducible rfl
      rotate_left
      · simp only [Act.put, List.setIfInBounds_toArray, List.set_cons_zero, List.set_cons_succ, i64_w, i32_w]
        rfl
      refine one_ (i := 2) (N := some 17) #[true, true, true, false, false, false] rfl rfl (by kernel_rfl) (by decide) (fun K hK => ?_)
      refine goes_ Try.func76 (by kernel_rfl) rfl #[.slice (some ⟨g, 0, none⟩) n cw] (by rfl) rfl rfl (by (try simp only [List.map_toArray, List.map_cons, List.map_nil]); rfl) ?_
      have CL := slices_Clone_int_int.calls (some ⟨g, 0, none⟩) cw fs fs w1.drew (Kd.C_drew (Kd.R_reads' HST1.out.rw_).2.2) (by have := (Kd.R_reads' HST1.out.rw_).2.1; have := HN.out; omega) (by unfold slices_Clone_int_int.f; rw [if_pos L1.out])
      rw [← HN.out] at CL
      refine CL.mono ?_
      clear CL
      rintro e w2 ⟨vc, rfl, hRc, hbC⟩
      obtain ⟨Ac, cc, eC⟩ := Kd.R_slice hRc
      subst eC
      have HAP := Aside0.mk (lab_app (W := w1.drew) (W2 := w2) (HST1.out.keep (below_drew (Below.refl _ _))) hbC hRc)
      have HST2 := Aside0.mk ((HST1.out.keep (below_drew (Below.refl _ _))).keep hbC)
      refine ⟨_, rfl, ?_⟩
      have hz4 : w2.cell? ⟨go, 0, none⟩ = some vo := (blk_cell HST2.out.ho 0).trans rfl
      have hz5 : w2.cell? ⟨gw, 0, none⟩ = some (.slice (some ⟨g, 0, none⟩) n cw) := (blk_cell HST2.out.hw 0).trans rfl
      refine hK.out _ _ ⟨hz4, hz5⟩ (fun hHeld => ?_)
      clear hK K
      refine norm_ (a' := ?_) ?_ ?_
      rotate_left
      · show Act.put _ (some 17) _ = _
        simp only [Act.put, List.setIfInBounds_toArray, List.set_cons_zero, List.set_cons_succ, i64_w, i32_w]
        rfl
      refine one_ (i := 3) (N := some 18) #[true, true, true, true, false, false] rfl rfl (by kernel_rfl) (by decide) (fun K hK => ?_)
      go_simp
      refine hK.out _ _ (by have hlo2 := blk_lt HST2.out.ho; have hlw2 := blk_lt HST2.out.hw; go_keep) (fun hHeld => ?_)
      clear hK K
      refine one_ (i := 4) (N := some 19) #[true, true, true, true, true, false] rfl rfl (by kernel_rfl) (by decide) (fun K hK => ?_)
      refine Kd.S_append_step (Kd.slice 3 (Kd.int .i64)) (w0 := w0) w0.heap.size (by rfl) (.tmp 15) (.tmp 18) 26 22 (.slice none 0 0) 24 (by rfl) Try.underlying26 info22 rfl (by decide) (by omega) vo outs fs [.slice Ac fs.length cc] (fun k_ => okx k_ ∧ k_ ≠ gw ∧ some k_ ≠ (Value.slice (some ⟨g, 0, none⟩) n cw).ownBlock) (fun k_ => some k_ = (Value.slice Ac fs.length cc).ownBlock) (by rfl) (by rfl) HAP.out.1 HAP.out.2.1 (fun k_ hk => FRESH.out k_ (Nat.le_trans hbC.size hk)) HAP.out.2.2 (below_weaken (below_drew HST1.out.below) HST1.out.below.size hbC) (Nat.le_trans HST1.out.below.size hbC.size) (by have := L2.out; omega) ?_
      intro v1 w3 hS3 hB3 hg3 _
      obtain ⟨A1, c1, e1⟩ := Kd.S_slice hS3
      subst e1
      have hz9 : w3.cell? ⟨go, 0, none⟩ = some vo := (blk_cell (blk_grown HST2.out.ho hg3 (Kd.S_ne HST2.out.so HST2.out.ho (by decide))) 0).trans rfl
      have hz10 : w3.cell? ⟨gw, 0, none⟩ = some (.slice (some ⟨g, 0, none⟩) n cw) := (blk_cell (blk_grown HST2.out.hw hg3 (Kd.S_away HST2.out.so (fun k hk => hk.2.1))) 0).trans rfl
      have hf9 : w3.frozen? ⟨go, 0, none⟩ = false := blk_frozen (blk_grown HST2.out.ho hg3 (Kd.S_ne HST2.out.so HST2.out.ho (by decide))) 0
      refine hK.out _ _ ⟨hz9, hz10⟩ (fun hHeld => ?_)
      clear hK K
      refine last_ (i := 5) (N := none) #[true, true, true, true, true, true] rfl rfl (by kernel_rfl) (by decide) (fun K hK => ?_)
      refine skip_ (w1 := ?_) (by rfl) rfl ?_ ?_
      rotate_left
      · go_simp
        rfl
      refine hK.out _ _ ?_
      clear hK K
      refine done_ (by kernel_rfl) ?_
      go_wp2
      refine bodyPost_ret (results_none rfl _ _ _) rfl ?_
      have FO := lab_out (W := w1.drew) (HST1.out.keep (below_drew (Below.refl _ _))) hbC hS3 hB3 hg3
      rw [List.length_append, List.length_singleton] at FO
      exact ⟨rfl, _, FO.1, KP1.out.then_ FO.2 (fun _ h_ => .inl h_)⟩
    · rw [if_neg hs] at h
      split at h
      case isFalse => cases h
      rename_i hi
      replace h := Option.bind_eq_some_iff.mp h
      obtain ⟨es, hes, h⟩ := h
      split at h
      case isFalse => cases h
      rename_i hesl
      replace h := Option.bind_eq_some_iff.mp h
      obtain ⟨lo, hlo, h⟩ := h
      split at h
      case isFalse => cases h
      rename_i hm
      have HES := Aside0.mk hes
      have HLO := Aside0.mk hlo
      have HM := Aside0.mk hm
      have ELM := Aside0.mk hesl
      have HF := Aside0.mk h
      have hb0 : (i == (l.length : Int)) = false := beq_eq_false_iff_ne.mpr hs
      have hi0 : 0 ≤ i := hi.1
      have hi1 : i < (l.length : Int) := hi.2
      clear hes h hs hesl hlo hm hi
      go_enter Try.func92, Try.ntmps92
      go_wp2_with fail
      refine (impl_Poset_n.calls _ _ l (l.length : Int) _ ?s1 ?s2 rfl).mono ?_
      case s1 => exact Kd.C_below HR.out HST.out.below
      case s2 => exact HC.out
      rintro e w1 ⟨rfl, hb⟩
      have HST1 := Aside0.mk (LabSt.keep HST.out hb)
      have KP1 := Aside0.mk (Kept.below (Kept.refl W (fun k_ => k_ = go ∨ okx k_)) hb)
      clear HST hb
      have hz2 : w1.cell? ⟨gp, 0, none⟩ = some (.slice A l.length c) := (blk_cell HST1.out.hp 0).trans rfl
      obtain ⟨adl, el, hxl⟩ := Kd.at_int (Kd.C_below HR.out HST1.out.below) i hi0 hi1
      cases el
      generalize hrl : rd l i = li at hxl HES
      clear hrl
      replace hi0 := eq_true hi0
      replace hi1 := eq_true hi1
      go_wp2_with fail
      refine (impl_items.calls k li es _ HES.out).mono ?_
      rintro e w2 ⟨ve, rfl, hRe, hb2⟩
      obtain ⟨Ae, ce, rfl⟩ := Kd.R_slice hRe
      have HSN := LabSt.narrow HST1.out hb2 hRe
      have KP2 := Aside0.mk (Kept.below KP1.out hb2)
      have NM := Aside0.mk HST1.out.nm
      generalize hbe : (Value.slice Ae es.length ce).ownBlock = be at HSN
      obtain ⟨HST2, HE⟩ := HSN
      replace HST2 := Aside0.mk HST2
      replace HE := Aside0.mk HE
      clear HST1 KP1 hb2 hRe hz2 hz1 hbe hxl
      go_wp2_with fail
      go_loopg [7, 27] es.length (fun kq v7 v27 w' => ∃ (x y : Int) (j : Nat), v7 = .int .i64 y ∧ v27 = .int .i64 x ∧ w' = w2 ∧ Aside0 (x = (j : Int) ∧ j ≤ es.length ∧ kq = es.length - j)
        ∧ Aside0 (impl_Poset_labels_1.least fs (es.drop j) y = some lo))
      case atStart => exact ⟨0, 0, 0, rfl, rfl, rfl, ⟨rfl, Nat.zero_le _, rfl⟩, ⟨by rw [List.drop_zero]; exact HLO.out⟩⟩
      case round =>
        obtain ⟨x, y, j, rfl, rfl, rfl, HJ, HL⟩ := hrel
        by_cases cj : x < (es.length : Int)
        · have cjb : decide (x < (es.length : Int)) = true := decide_eq_true cj
          have p1 : (0 : Int) ≤ x := by have := HJ.out; omega
          obtain ⟨ade, ee, hxe⟩ := Kd.at_int (Kd.R_reads' HE.out).2.2 x p1 cj
          cases ee
          have hjl : j < es.length := by have := HJ.out; omega
          have hds := HL.out
          have hrd : es[j] = rd es x := by have := HJ.out; rw [this.1]; simp [rd, hjl]
          unfold impl_Poset_labels_1.least at hds
          rw [List.drop_eq_getElem_cons hjl, List.foldlM_cons, hrd] at hds
          generalize rd es x = z at hds hxe
          clear hrd HL
          replace hds := Option.bind_eq_some_iff.mp hds
          obtain ⟨y2, hy2, hds⟩ := hds
          split at hy2
          case isFalse => cases hy2
          rename_i hz0
          have HY2 := Aside0.mk (Option.some.inj hy2)
          have HL2 := Aside0.mk hds
          have HJL := Aside0.mk hjl
          have hzn : z < (n : Int) := by have := HN.out; omega
          have hz0' := hz0.1
          obtain ⟨hxf, _⟩ := Kd.R_celln 0 HST2.out.rw_ z hz0' hzn
          have hxf' : wr.cell? ⟨g, z.toNat, none⟩ = some (.int .i64 (rd fs z)) := hxf
          obtain ⟨q, hq⟩ : ∃ q, q = rd fs z := ⟨_, rfl⟩
          have HQ := Aside0.mk hq
          rw [← hq] at hxf'
          clear hxf hq hz0 hy2 hds hjl
          replace p1 := eq_true p1
          replace cj := eq_true cj
          replace hz0' := eq_true hz0'
          replace hzn := eq_true hzn
          have hz3 : wr.cell? ⟨gw, 0, none⟩ = some (.slice (some ⟨g, 0, none⟩) n cw) := (blk_cell HST2.out.hw 0).trans rfl
          go_wp2_with fail
          all_goals
            go_roundg (es.length - (j + 1))
            case measure => have := HJ.out; have := HJL.out; omega
            case rel => exact ⟨wrap64 (x + 1), y2, j + 1, by rw [← HY2.out, ← HQ.out]; first | rw [if_pos (by assumption)] | rw [if_neg (by omega)], rfl, rfl, ⟨by have := HJ.out.1; have := HJL.out; have := ELM.out; unfold wrap64; omega, HJL.out, rfl⟩, HL2⟩
        · have cjb : decide (x < (es.length : Int)) = false := decide_eq_false cj
          have hF3 : y = lo := by
            have h1 := HJ.out
            have h2 := HL.out
            rw [show j = es.length by omega, List.drop_length] at h2
            exact Option.some.inj h2
          subst hF3
          clear cj
          go_wp2_with fail
          have HM0 := HM.out.1
          have HY0 := HM.out.2.1
          go_loopg [10] (m + 1 - y).toNat (fun kq v10 w' => ∃ (x : Int) (j : Nat) (vo1 : Value) (o : List (List Int)) (f : List Int), v10 = .int .i64 x ∧ Aside0 (x = y + (j : Int) ∧ j ≤ (m + 1 - y).toNat ∧ kq = (m + 1 - y).toNat - j) ∧ Aside0 (LabSt w0 w' (fun k_ => okx k_ ∧ some k_ ≠ be) gp go gw gm gf (some adl) c l m vo1 (.slice (some ⟨g, 0, none⟩) n cw) o f)
            ∧ Aside0 (((List.range (m + 1 - y).toNat).drop j).foldlM (fun (st : List (List Int) × List Int) (j : Nat) => impl_Poset_labels_1.f k l m (wrap64 (i + 1)) st.1 (st.2.set i.toNat (y + (j : Int)))) (o, f) = some (outs', fs')) ∧ Aside0 (Kept W w' (fun k_ => k_ = go ∨ okx k_)))
          case atStart => exact ⟨y, 0, vo, outs, fs, rfl, ⟨by omega, Nat.zero_le _, rfl⟩, HST2, ⟨by rw [List.drop_zero]; exact HF.out⟩, KP2⟩
          case round =>
            obtain ⟨x, j, vo1, o, f, rfl, HJ2, HS, HF1, KP3⟩ := hrel
            clear HST2 HF KP2
            have HNf := Aside0.mk (show n = f.length from (Kd.R_reads' HS.out.rw_).1)
            have hz5 : wr.cell? ⟨gm, 0, none⟩ = some (.int .i64 m) := (blk_cell HS.out.hm 0).trans rfl
            by_cases cx : x ≤ m
            · have cxb : decide (x ≤ m) = true := decide_eq_true cx
              have hjl : j < (m + 1 - y).toNat := by have := HJ2.out; omega
              have hds := HF1.out
              rw [List.drop_eq_getElem_cons (by rw [List.length_range]; exact hjl), List.foldlM_cons, List.getElem_range] at hds
              replace hds := Option.bind_eq_some_iff.mp hds
              obtain ⟨⟨o2, f2⟩, ho2, hds⟩ := hds
              have hxy := HJ2.out.1
              rw [← hxy] at ho2
              have HO2 := Aside0.mk ho2
              have HF2 := Aside0.mk hds
              have HJL := Aside0.mk hjl
              have HCX := Aside0.mk cx
              have hin : i < (n : Int) := by have := HM.out.2.2; have := HN.out; omega
              have hi0' : 0 ≤ i := of_eq_true hi0
              obtain ⟨hx6, hf6⟩ := Kd.R_celln 0 HS.out.rw_ i hi0' hin
              have PU := lab_put HS.out i x
              have HS4 := Aside0.mk PU.1
              have KP4 := Aside0.mk (KP3.out.then_ PU.2 (fun k_ h_ => .inl (h_.elim .inl (fun e_ => .inr e_.1))))
              clear PU ho2 hds hjl hxy HF1 KP3 cx hi0'
              replace hin := eq_true hin
              have hz3 : wr.cell? ⟨gw, 0, none⟩ = some (.slice (some ⟨g, 0, none⟩) n cw) := (blk_cell HS.out.hw 0).trans rfl
              have HG := Aside0.mk (Kd.R_lt HS.out.rw_ g rfl)
              have hz7 : wr.cell? ⟨gf, 0, none⟩ = some (.func (.func 92) #[] #[.pointer (some ⟨gp, 0, none⟩), .pointer (some ⟨go, 0, none⟩), .pointer (some ⟨gw, 0, none⟩), .pointer (some ⟨gm, 0, none⟩), .pointer (some ⟨gf, 0, none⟩)]) := (blk_cell HS.out.hf 0).trans rfl
              have hne7 : gf ≠ g := fun e_ => Kd.R_ne HS.out.rw_ HS.out.hf (by decide) (congrArg some e_)
              have hne8 : g ≠ gf := fun e_ => hne7 e_.symm
              go_wp2_with fail
              generalize wr.setCell ⟨g, i.toNat, none⟩ (.int .i64 x) = w4 at HS4 KP4 ⊢
              clear hz7 hne7 hne8 hz3 hz5 hx6 hf6 HG HS
              refine (HIH.out _ _ _ _ _ _ _ _ HS4.out HO2.out).mono ?_
              rintro e w6 ⟨rfl, vo2, HS6, KP6⟩
              have HE6 := Aside0.mk HS6
              have KP7 := Aside0.mk (KP4.out.then_ KP6 (fun k_ h_ => .inl (h_.elim .inl (fun e_ => .inr e_.1))))
              clear HS6 KP6 HS4 KP4
              go_wp2_with fail
              go_roundg ((m + 1 - y).toNat - (j + 1))
              case measure => have := HJ2.out; have := HJL.out; omega
              case rel => exact ⟨wrap64 (x + 1), j + 1, _, _, _, rfl, ⟨by have := HJ2.out.1; have := HM.out.1; have := HM.out.2.1; have := HCX.out; unfold wrap64; omega, HJL.out, rfl⟩, HE6, HF2, KP7⟩
            · have cxb : decide (x ≤ m) = false := decide_eq_false cx
              have hF4 : o = outs' ∧ f = fs' := by
                have h1 := HJ2.out
                have h2 := HF1.out
                rw [show j = (m + 1 - y).toNat by omega, List.drop_of_length_le (by rw [List.length_range]; exact Nat.le_refl _)] at h2
                have h3 := Option.some.inj h2
                exact ⟨congrArg Prod.fst h3, congrArg Prod.snd h3⟩
              obtain ⟨rfl, rfl⟩ := hF4
              clear cx
              go_wp2_with fail
              refine bodyPost_end (results_none rfl _ _ _) rfl ?_
              exact ⟨rfl, _, HS.out.wide NM.out, KP3.out⟩


end Go.Proofs.Ytcajljndcddldaa.PDa
