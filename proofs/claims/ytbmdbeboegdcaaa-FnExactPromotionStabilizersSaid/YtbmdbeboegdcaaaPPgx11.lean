-- Written for this claim by wip/gprint.py, out of the translation and of hand-written parts.
import Derived.Test.YtbmdbeboegdcaaaPPgx0
import Derived.Test.YtbmdbeboegdcaaaPPgx7
import Derived.Test.YtbmdbeboegdcaaaPPgx8
import Derived.Test.YtbmdbeboegdcaaaPPgx9
import Derived.Test.YtbmdbeboegdcaaaPPgx10
namespace Go.Proofs.Ytbmdbeboegdcaaa.PPg
open Go.RowKit Go.Proofs.YtbmdbeboegdcaaaW.PrintWords Go.Proofs.YtbmdbeboegdcaaaW.PrintLast Go.Proofs.YtbmdbeboegdcaaaW.PrintMore
attribute [local go_sem] max2_int min2_int max_two min_two max_three min_three max_four min_four   -- for this text's walks alone
set_option linter.unusedVariables false
set_option linter.unusedSimpArgs false

/-! ### impl_few_1: by hand -/
def impl_few_1.f : Nat → List Int → Int → List (List Int) → List Int → Option (List (List Int))
  | 0, _, _, _, _ => none
  | k + 1, l, s, outs, ws => (impl_Poset_all.f l).bind fun a => if s = a then (if ws.length < 17592186044416 then (if outs.length + 1 < 5864062014805 then some (outs ++ [ws]) else none) else none)
      else (impl_Poset_next.f k l s).bind fun es => if es.length < 17592186044416 then (if ws.length + 1 < 17592186044416 then es.foldlM (fun o e => if 0 ≤ e then impl_few_1.f k l (Go.bits .or .i64 s (wrap64 (2 ^ min e.toNat 64))) o (ws ++ [e]) else none) outs else none) else none

/-- What few's closure finds and leaves: the four variables that it captured, the list of lists and the list of its own. -/
structure FewSt (w0 W : World) (okx : Nat → Prop) (gp go gw gf : Nat) (A : Option Addr) (c : Nat) (l : List Int) (vo vw : Value) (outs : List (List Int)) (ws : List Int) : Prop where
  hp : W.heap[gp]? = some (.cells #[.slice A l.length c] 29 (0, 0))
  ho : W.heap[go]? = some (.cells #[vo] 31 (0, 0))
  hw : W.heap[gw]? = some (.cells #[vw] 22 (0, 0))
  hf : W.heap[gf]? = some (.cells #[.func (.func 49) #[] #[.pointer (some ⟨gp, 0, none⟩), .pointer (some ⟨go, 0, none⟩), .pointer (some ⟨gw, 0, none⟩), .pointer (some ⟨gf, 0, none⟩)]] 64 (0, 0))
  so : Kd.S (Kd.slice 3 (Kd.int .i64)) 22 W w0.heap.size (fun k_ => okx k_ ∧ k_ ≠ gw ∧ some k_ ≠ vw.ownBlock) vo outs
  rw_ : Kd.R (Kd.int .i64) 3 W w0.heap.size (fun k_ => okx k_) vw ws
  go0 : w0.heap.size ≤ go
  gw0 : w0.heap.size ≤ gw
  below : Below w0.heap.size w0 W
  fresh : ∀ k, W.heap.size ≤ k → okx k

theorem FewSt.keep {w0 W W1 : World} {okx : Nat → Prop} {gp go gw gf : Nat} {A : Option Addr} {c : Nat} {l : List Int} {vo vw : Value} {outs : List (List Int)} {ws : List Int} (h : FewSt w0 W okx gp go gw gf A c l vo vw outs ws) (hb : Below W.heap.size W W1) : FewSt w0 W1 okx gp go gw gf A c l vo vw outs ws :=
  ⟨blk_below h.hp hb, blk_below h.ho hb, blk_below h.hw hb, blk_below h.hf hb, Kd.S_below h.so hb, Kd.R_below h.rw_ hb, h.go0, h.gw0, below_step h.below hb, fun k hk => h.fresh k (Nat.le_trans hb.size hk)⟩
section
variable {w0 W W1 W2 W3 : World} {okx : Nat → Prop} {gp go gw gf : Nat} {A Aw Ac : Option Addr} {c cw cc : Nat} {l : List Int} {vo vw v1 : Value} {outs outs1 : List (List Int)} {ws ws1 : List Int}
/-- The copy of the list that is put in: what the append asks. -/
theorem few_app (h : FewSt w0 W okx gp go gw gf A c l vo (.slice Aw ws.length cw) outs ws) (hb : Below W.heap.size W W2) (hR : Kd.R (Kd.int .i64) 3 W2 W.heap.size (fun _ => True) (.slice Ac ws.length cc) ws) :
    (Kd.slice 3 (Kd.int .i64)).M W2 w0.heap.size (fun k_ => some k_ = (Value.slice Ac ws.length cc).ownBlock) ws [.slice Ac ws.length cc] ∧
    (∀ k_, some k_ = (Value.slice Ac ws.length cc).ownBlock → (okx k_ ∧ k_ ≠ gw ∧ some k_ ≠ (Value.slice Aw ws.length cw).ownBlock) ∧ some k_ ≠ vo.ownBlock) ∧
    Kd.S (Kd.slice 3 (Kd.int .i64)) 22 W2 w0.heap.size (fun k_ => (okx k_ ∧ k_ ≠ gw ∧ some k_ ≠ (Value.slice Aw ws.length cw).ownBlock) ∧ ¬ some k_ = (Value.slice Ac ws.length cc).ownBlock) vo outs := by
  have hlt := h.below.size
  have hge : ∀ k_, some k_ = (Value.slice Ac ws.length cc).ownBlock → W.heap.size ≤ k_ := fun k_ e => Kd.R_base hR k_ e.symm
  refine ⟨Kd.M_row (Kd.R_lower (Kd.R_tight rfl hR) hlt), fun k_ e => ⟨⟨h.fresh k_ (hge k_ e), fun e2 => ?_, fun e2 => ?_⟩, fun e2 => ?_⟩, Kd.S_elder' h.so (Kd.R_base hR) hb⟩
  · have := hge k_ e; have := blk_lt h.hw; omega
  · have := hge k_ e; have := Kd.R_lt h.rw_ k_ e2.symm; omega
  · have := hge k_ e; have := Kd.S_lt h.so k_ e2.symm; omega
/-- The list of lists has grown and is put back. -/
theorem few_out (h : FewSt w0 W okx gp go gw gf A c l vo vw outs ws) (hb : Below W.heap.size W W2) (hS : Kd.S (Kd.slice 3 (Kd.int .i64)) 22 W3 w0.heap.size (fun k_ => okx k_ ∧ k_ ≠ gw ∧ some k_ ≠ vw.ownBlock) v1 outs1)
    (hB : Below w0.heap.size w0 W3) (hg : W2.grownBy W3 vo.ownBlock) : FewSt w0 (W3.setCell ⟨go, 0, none⟩ v1) okx gp go gw gf A c l v1 vw outs1 ws ∧ Kept W (W3.setCell ⟨go, 0, none⟩ v1) (fun k_ => k_ = go ∨ k_ = gw ∨ okx k_) := by
  have h2 := h.keep hb
  have n1 : gp ≠ go := blk_ne h.hp h.ho (by decide)
  have n2 : gw ≠ go := blk_ne h.hw h.ho (by decide)
  have n3 : gf ≠ go := blk_ne h.hf h.ho (by decide)
  have hrow : ∀ k, vo.ownBlock = some k → okx k ∧ k ≠ gw := fun k e => ⟨(Kd.S_R h2.so).1 k e |>.1, (Kd.S_R h2.so).1 k e |>.2.1⟩
  have p1 := blk_grown h2.hp hg (Kd.S_ne h2.so h2.hp (by decide))
  have p2 := blk_grown h2.ho hg (Kd.S_ne h2.so h2.ho (by decide))
  have p3 := blk_grown h2.hw hg (Kd.S_away h2.so (fun k hk => hk.2.1))
  have p4 := blk_grown h2.hf hg (Kd.S_ne h2.so h2.hf (by decide))
  have hsz : W.heap.size ≤ W3.heap.size := Nat.le_trans hb.size hg.size
  refine ⟨⟨blk_far p1 n1 _, by simpa using blk_set p2 0 v1, blk_far p3 n2 _, blk_far p4 n3 _, Kd.S_set hS p2 (by decide) 0 v1, ?_, h.go0, h.gw0, hB.setCell h.go0 _, fun k hk => h.fresh k (by simp [World.setCell] at hk; omega)⟩, ?_⟩
  · refine Kd.R_set (t := 31) ?_ p2 (by decide) 0 v1
    exact Kd.R_mono (Kd.R_grown (Kd.R_apart' h2.rw_ (Kd.S_typed h2.so) (by decide)) hg (fun k hk => hk.2)) (fun k hk => hk.1)
  · exact Kept.setCell (Kept.of_grown hg (Kept.below (Kept.refl W _) hb) (fun k e => .inl (.inr (.inr (hrow k e).1)))) (.inl (.inl rfl)) _
end
section
variable {P : Program} {ops : Array Oper} {Q : Exit → Act → World → Prop}
/-- A call of a function value, one operation of a region that draws. -/
theorem goesR_ {oi : Oper} {N : Option Tmp} {a : Act} {w : World} {K : Act → World → Prop} {v : Value} {t : Tmp} {ags : Array Operand} {ts : Array TypeId} (hv : a.eval (.tmp t) = v) (args : Array Value)
    (hw : Region.wanted oi (yielded ops a.tmps) = true) (hN : oi.dst = N) (hop : oi.op = .call { callee := .value (.tmp t), args := ags, argTypes := ts }) (hargs : ags.map a.eval = args)
    (h : Applies P v args w fun e w' => ∃ u, e = .returned u ∧ K (a.put N u) w') : if Region.wanted oi (yielded ops a.tmps) = true then Oper.wp P oi a w K Q else K (a.put N undef) w := by
  obtain ⟨f, fn, first, caps, rfl, hf, hname, hb, hc⟩ := h
  refine call_ f (first ++ args ++ caps) hw hN ?_ hc
  have he := Go.Proofs.YtbmdbeboegdcaaaW.PrintLast.enters_ hf hname hb (first ++ args ++ caps) w
  unfold execOp
  simp [hop, resolve, Deferred.ofValue, invoke, hv, hargs]
  simpa using he
end
theorem FewSt.narrow {w0 W W1 : World} {okx : Nat → Prop} {gp go gw gf : Nat} {A : Option Addr} {c : Nat} {l : List Int} {vo vw ve : Value} {outs : List (List Int)} {ws es : List Int} {okv : Nat → Prop} (h : FewSt w0 W okx gp go gw gf A c l vo vw outs ws) (hb : Below W.heap.size W W1)
    (he : Kd.R (Kd.int .i64) 3 W1 W.heap.size okv ve es) : FewSt w0 W1 (fun k => okx k ∧ some k ≠ ve.ownBlock) gp go gw gf A c l vo vw outs ws ∧ Kd.R (Kd.int .i64) 3 W1 w0.heap.size (fun k => some k = ve.ownBlock ∧ k ≠ go ∧ k ≠ gw) ve es := by
  have hge := Kd.R_base he
  have hlt := Kd.R_lt he
  have h1 := blk_lt h.ho
  have h2 := blk_lt h.hw
  refine ⟨⟨blk_below h.hp hb, blk_below h.ho hb, blk_below h.hw hb, blk_below h.hf hb, Kd.S_mono (Kd.S_elder' h.so hge hb) (fun k hk => ⟨⟨hk.1.1, hk.2⟩, hk.1.2.1, hk.1.2.2⟩), Kd.R_mono (Kd.R_elder' h.rw_ hge hb) (fun k hk => ⟨hk.1, hk.2⟩), h.go0, h.gw0, below_step h.below hb, fun k hk => ⟨h.fresh k (Nat.le_trans hb.size hk), fun e => ?_⟩⟩, ?_⟩
  · have := hlt k e.symm
    omega
  · exact Kd.R_mono (Kd.R_lower (Kd.R_tight rfl he) h.below.size) (fun k e => ⟨e, by have := hge k e.symm; omega, by have := hge k e.symm; omega⟩)
theorem FewSt.wide {w0 W : World} {okx : Nat → Prop} {gp go gw gf : Nat} {A : Option Addr} {c : Nat} {l : List Int} {vo vw : Value} {b : Option Nat} {outs : List (List Int)} {ws : List Int} (h : FewSt w0 W (fun k => okx k ∧ some k ≠ b) gp go gw gf A c l vo vw outs ws) : FewSt w0 W okx gp go gw gf A c l vo vw outs ws :=
  ⟨h.hp, h.ho, h.hw, h.hf, Kd.S_mono h.so (fun k hk => ⟨hk.1.1, hk.2⟩), Kd.R_mono h.rw_ (fun k hk => hk.1), h.go0, h.gw0, h.below, fun k hk => (h.fresh k hk).1⟩
/-- The list has an element more and is put back. -/
theorem few_push {w0 W W3 : World} {okx : Nat → Prop} {gp go gw gf : Nat} {A : Option Addr} {c : Nat} {l : List Int} {vo vw v1 : Value} {outs : List (List Int)} {ws ws1 : List Int} (h : FewSt w0 W okx gp go gw gf A c l vo vw outs ws) (hr : Kd.R (Kd.int .i64) 3 W3 w0.heap.size okx v1 ws1)
    (hB : Below w0.heap.size w0 W3) (hg : W.grownBy W3 vw.ownBlock) (hat : v1.ownBlock = vw.ownBlock ∨ ∃ b, v1.ownBlock = some b ∧ W.heap.size ≤ b) :
    FewSt w0 (W3.setCell ⟨gw, 0, none⟩ v1) okx gp go gw gf A c l vo v1 outs ws1 ∧ Kept W (W3.setCell ⟨gw, 0, none⟩ v1) (fun k_ => k_ = gw ∨ okx k_) := by
  have n1 : gp ≠ gw := blk_ne h.hp h.hw (by decide)
  have n2 : go ≠ gw := blk_ne h.ho h.hw (by decide)
  have n3 : gf ≠ gw := blk_ne h.hf h.hw (by decide)
  have hty := Kd.R_typed h.rw_
  have nb : ∀ {g t : Nat} {cs : Array Value}, W.heap[g]? = some (.cells cs t (0, 0)) → t ≠ 3 → some g ≠ vw.ownBlock := by
    intro g t cs hg1 ht e
    obtain ⟨cells, hc⟩ := hty g e.symm
    rw [hg1] at hc
    injection hc with hc
    injection hc with _ hc
    exact ht hc
  have p1 := blk_grown h.hp hg (nb h.hp (by decide))
  have p2 := blk_grown h.ho hg (nb h.ho (by decide))
  have p3 := blk_grown h.hw hg (nb h.hw (by decide))
  have p4 := blk_grown h.hf hg (nb h.hf (by decide))
  refine ⟨⟨blk_far p1 n1 _, blk_far p2 n2 _, by simpa using blk_set p3 0 v1, blk_far p4 n3 _, ?_, Kd.R_set hr p3 (by decide) 0 v1, h.go0, h.gw0, hB.setCell h.gw0 _, fun k hk => h.fresh k (by simp [World.setCell] at hk; exact Nat.le_trans hg.size hk)⟩, ?_⟩
  · refine Kd.S_far ?_ (p := ⟨gw, 0, none⟩) (fun k hk => hk.2.1) v1
    refine Kd.S_mono (Kd.S_grown (Kd.S_bound h.so) hg (fun k hk => hk.1.2.2)) (fun k hk => ⟨hk.1.1, hk.1.2.1, fun e => ?_⟩)
    rcases hat with hat | ⟨b, hb1, hb2⟩
    · exact hk.1.2.2 (e.trans hat)
    · rw [hb1] at e
      injection e with e
      have := hk.2.2.1
      omega
  · exact Kept.setCell (Kept.of_grown hg (Kept.refl W _) (fun k e => .inl (.inr (h.rw_.1 k e)))) (.inl (.inl rfl)) _
theorem few_pop {w0 W : World} {okx : Nat → Prop} {gp go gw gf : Nat} {A Aw : Option Addr} {c n m cw : Nat} {l : List Int} {vo : Value} {outs : List (List Int)} {ws ws1 : List Int} (h : FewSt w0 W okx gp go gw gf A c l vo (.slice Aw n cw) outs ws1) (hm : m ≤ ws1.length) (hws : ws1.take m = ws) :
    FewSt w0 (W.setCell ⟨gw, 0, none⟩ (.slice Aw m cw)) okx gp go gw gf A c l vo (.slice Aw m cw) outs ws ∧ Kept W (W.setCell ⟨gw, 0, none⟩ (.slice Aw m cw)) (fun k_ => k_ = gw ∨ okx k_) := by
  have hob : (Value.slice Aw m cw).ownBlock = (Value.slice Aw n cw).ownBlock := by cases Aw <;> rfl
  have n1 : gp ≠ gw := blk_ne h.hp h.hw (by decide)
  have n2 : go ≠ gw := blk_ne h.ho h.hw (by decide)
  have n3 : gf ≠ gw := blk_ne h.hf h.hw (by decide)
  subst hws
  refine ⟨⟨blk_far h.hp n1 _, blk_far h.ho n2 _, by simpa using blk_set h.hw 0 _, blk_far h.hf n3 _, ?_, Kd.R_set (Kd.R_take h.rw_ hm) h.hw (by decide) 0 _, h.go0, h.gw0, h.below.setCell h.gw0 _, fun k hk => h.fresh k (by simpa [World.setCell] using hk)⟩, Kept.setCell (Kept.refl W _) (.inl (.inl rfl)) _⟩
  rw [hob]
  exact Kd.S_far h.so (p := ⟨gw, 0, none⟩) (fun k hk => hk.2.1) _
set_option maxRecDepth 100000 in
set_option maxHeartbeats 4000000 in
theorem impl_few_1.calls (w0 : World) (gp go gw gf : Nat) (A : Option Addr) (c : Nat) (l : List Int) (hr : Kd.C (Kd.int .i64) w0 A l.length l) (hc : l.length ≤ c) :
    ∀ (k : Nat) (s : Int) (W : World) (okx : Nat → Prop) (vo vw : Value) (outs outs' : List (List Int)) (ws : List Int), FewSt w0 W okx gp go gw gf A c l vo vw outs ws → impl_few_1.f k l s outs ws = some outs' →
      Calls Try.prog 49 #[.int .i64 s, .pointer (some ⟨gp, 0, none⟩), .pointer (some ⟨go, 0, none⟩), .pointer (some ⟨gw, 0, none⟩), .pointer (some ⟨gf, 0, none⟩)] W
        fun e W' => e = .returned (.tuple #[]) ∧ ∃ vo' vw', FewSt w0 W' okx gp go gw gf A c l vo' vw' outs' ws ∧ Kept W W' (fun k_ => k_ = go ∨ k_ = gw ∨ okx k_) := by
  intro k
  induction k with
  | zero => intro s W okx vo vw outs outs' ws _ h; simp [impl_few_1.f] at h
  | succ k ih =>
    intro s W okx vo vw outs outs' ws hst h
    simp only [impl_few_1.f] at h
    replace h := Option.bind_eq_some_iff.mp h
    obtain ⟨a, ha, h⟩ := h
    have HA := Aside0.mk ha
    have HST := Aside0.mk hst
    have HIH := Aside0.mk ih
    have hz1 : W.cell? ⟨gp, 0, none⟩ = some (.slice A l.length c) := (blk_cell hst.hp 0).trans rfl
    have HR := Aside0.mk hr
    have HC := Aside0.mk hc
    clear ha ih hr hc
    have hu29 := Try.underlying29
    by_cases hs : s = a
    · rw [if_pos hs] at h
      split at h
      case isFalse => cases h
      rename_i hl1
      split at h
      case isFalse => cases h
      rename_i hl2
      obtain rfl := Option.some.inj h
      have L1 := Aside0.mk hl1
      have L2 := Aside0.mk hl2
      clear h hl1 hl2
      have hb0 : (s == a) = true := beq_iff_eq.mpr hs
      clear hs hst
      go_enter Try.func49, Try.ntmps49
      go_wp2_with fail
      refine (impl_Poset_all.calls _ _ l a _ ?s1 ?s2 HA.out).mono ?_
      case s1 => exact Kd.C_below HR.out HST.out.below
      case s2 => exact HC.out
      rintro e w1 ⟨rfl, hb⟩
      have HST1 := Aside0.mk (FewSt.keep HST.out hb)
      have KP1 := Aside0.mk (Kept.below (Kept.refl W (fun k_ => k_ = go ∨ k_ = gw ∨ okx k_)) (below_drew hb))
      clear HST hb
      have hlo := blk_lt HST1.out.ho
      have hlw := blk_lt HST1.out.hw
      have hz2 : w1.cell? ⟨go, 0, none⟩ = some vo := (blk_cell HST1.out.ho 0).trans rfl
      have hz3 : w1.cell? ⟨gw, 0, none⟩ = some vw := (blk_cell HST1.out.hw 0).trans rfl
      go_wp2_with fail
      obtain ⟨Aw, cw, hvw⟩ := Kd.R_slice HST1.out.rw_
      subst hvw
      have FRESH := Aside0.mk (show ∀ k_, w1.heap.size ≤ k_ → okx k_ ∧ k_ ≠ gw ∧ some k_ ≠ (Value.slice Aw ws.length cw).ownBlock from fun k_ hk => ⟨HST1.out.fresh k_ hk, by have := blk_lt HST1.out.hw; omega, fun e_ => by have := Kd.R_lt HST1.out.rw_ k_ e_.symm; omega⟩)
      refine start_ (n := 6) (S := fun w' => w'.cell? ⟨go, 0, none⟩ = some vo ∧ w'.cell? ⟨gw, 0, none⟩ = some (.slice Aw ws.length cw)) (ds := [5]) #[false, false, false, false, false, false] (by kernel_rfl) rfl rfl ⟨hz2, hz3⟩ (fun hHeld => ?_)
      refine take_ (i := 0) (N := some 12) (v := ?_) (a' := ?_) #[true, false, false, false, false, false] rfl rfl (by kernel_rfl) (fun _ _ _ h => h) (Or.inl ⟨by rfl, ?_⟩) hHeld ?_ ?_
      rotate_left
      · rintro w' ⟨s0, s1⟩
        go_simp
        with_reducible rfl
      rotate_left
      · simp only [Act.put, List.setIfInBounds_toArray, List.set_cons_zero, List.set_cons_succ, i64_w, i32_w]
        rfl
      refine take_ (i := 1) (N := some 13) (v := ?_) (a' := ?_) #[true, true, false, false, false, false] rfl rfl (by kernel_rfl) (fun _ _ _ h => h) (Or.inl ⟨by rfl, ?_⟩) hHeld ?_ ?_
      rotate_left
      · rintro w' ⟨s0, s1⟩
        go_simp
        with_reducible rfl
      rotate_left
      · simp only [Act.put, List.setIfInBounds_toArray, List.set_cons_zero, List.set_cons_succ, i64_w, i32_w]
        rfl
      refine one_ (i := 2) (N := some 14) #[true, true, true, false, false, false] rfl rfl (by kernel_rfl) (by decide) (fun K hK => ?_)
      refine goes_ Try.func37 (by kernel_rfl) rfl #[.slice Aw ws.length cw] (by rfl) rfl rfl (by (try simp only [List.map_toArray, List.map_cons, List.map_nil]); rfl) ?_
      refine (slices_Clone_int_int.calls Aw cw ws ws _ (by repeat (first | exact (Kd.R_reads' HST1.out.rw_).2.2 | (with_reducible refine Kd.C_drew ?_) | (with_reducible refine Kd.C_drewN ?_ _) | (with_reducible refine Kd.C_alloc ?_ _))) (Kd.R_reads' HST1.out.rw_).2.1 (by unfold slices_Clone_int_int.f; rw [if_pos L1.out])).mono ?_
      rintro e w2 ⟨vc, rfl, hRc, hbC⟩
      obtain ⟨Ac, cc, eC⟩ := Kd.R_slice hRc
      subst eC
      have HAP := Aside0.mk (few_app (W := w1.drew) (W2 := w2) (HST1.out.keep (below_drew (Below.refl _ _))) hbC hRc)
      have HST2 := Aside0.mk ((HST1.out.keep (below_drew (Below.refl _ _))).keep hbC)
      refine ⟨_, rfl, ?_⟩
      have hz4 : w2.cell? ⟨go, 0, none⟩ = some vo := (blk_cell HST2.out.ho 0).trans rfl
      have hz5 : w2.cell? ⟨gw, 0, none⟩ = some (.slice Aw ws.length cw) := (blk_cell HST2.out.hw 0).trans rfl
      refine hK.out _ _ ⟨hz4, hz5⟩ (fun hHeld => ?_)
      clear hK K
      refine norm_ (a' := ?_) ?_ ?_
      rotate_left
      · show Act.put _ (some 14) _ = _
        simp only [Act.put, List.setIfInBounds_toArray, List.set_cons_zero, List.set_cons_succ, i64_w, i32_w]
        rfl
      refine one_ (i := 3) (N := some 15) #[true, true, true, true, false, false] rfl rfl (by kernel_rfl) (by decide) (fun K hK => ?_)
      go_simp
      refine hK.out _ _ (by have hlo2 := blk_lt HST2.out.ho; have hlw2 := blk_lt HST2.out.hw; go_keep) (fun hHeld => ?_)
      clear hK K
      refine one_ (i := 4) (N := some 16) #[true, true, true, true, true, false] rfl rfl (by kernel_rfl) (by decide) (fun K hK => ?_)
      refine Kd.S_append_step (Kd.slice 3 (Kd.int .i64)) (w0 := w0) w0.heap.size (by rfl) (.tmp 12) (.tmp 15) 31 22 (.slice none 0 0) 24 (by rfl) Try.underlying31 info22 rfl (by decide) (by omega) vo outs ws [.slice Ac ws.length cc] (fun k_ => okx k_ ∧ k_ ≠ gw ∧ some k_ ≠ (Value.slice Aw ws.length cw).ownBlock) (fun k_ => some k_ = (Value.slice Ac ws.length cc).ownBlock) (by rfl) (by rfl) HAP.out.1 HAP.out.2.1 (fun k_ hk => FRESH.out k_ (Nat.le_trans hbC.size hk)) HAP.out.2.2 (below_weaken (below_drew HST1.out.below) HST1.out.below.size hbC) (Nat.le_trans HST1.out.below.size hbC.size) (by have := L2.out; omega) ?_
      intro v1 w3 hS3 hB3 hg3 _
      obtain ⟨A1, c1, e1⟩ := Kd.S_slice hS3
      subst e1
      have hz9 : w3.cell? ⟨go, 0, none⟩ = some vo := (blk_cell (blk_grown HST2.out.ho hg3 (Kd.S_ne HST2.out.so HST2.out.ho (by decide))) 0).trans rfl
      have hz10 : w3.cell? ⟨gw, 0, none⟩ = some (.slice Aw ws.length cw) := (blk_cell (blk_grown HST2.out.hw hg3 (Kd.S_away HST2.out.so (fun k hk => hk.2.1))) 0).trans rfl
      have hf9 : w3.frozen? ⟨go, 0, none⟩ = false := blk_frozen (blk_grown HST2.out.ho hg3 (Kd.S_ne HST2.out.so HST2.out.ho (by decide))) 0
      refine hK.out _ _ ⟨hz9, hz10⟩ (fun hHeld => ?_)
      clear hK K
      refine last_ (i := 5) (N := none) #[true, true, true, true, true, true] rfl rfl (by kernel_rfl) (by decide) (fun K hK => ?_)
      refine skip_ (w1 := ?_) (by rfl) rfl ?_ ?_
      rotate_left
      · go_simp
        rfl
      refine hK.out _ _ ?_
      clear hK K
      refine done_ (by kernel_rfl) ?_
      go_wp2
      refine bodyPost_ret (results_none rfl _ _ _) rfl ?_
      have FO := few_out (W := w1.drew) (HST1.out.keep (below_drew (Below.refl _ _))) hbC hS3 hB3 hg3
      rw [List.length_append, List.length_singleton] at FO
      exact ⟨rfl, _, _, FO.1, KP1.out.then_ FO.2 (fun _ h_ => .inl h_)⟩
    · rw [if_neg hs] at h
      replace h := Option.bind_eq_some_iff.mp h
      obtain ⟨es, hes, h⟩ := h
      split at h
      case isFalse => cases h
      rename_i hesl
      split at h
      case isFalse => cases h
      rename_i hwl
      have ELM := Aside0.mk hesl
      have HWL := Aside0.mk hwl
      clear hesl hwl
      have hb0 : (s == a) = false := beq_eq_false_iff_ne.mpr hs
      have HES := Aside0.mk hes
      have HF := Aside0.mk h
      clear hes h hs hst
      go_enter Try.func49, Try.ntmps49
      go_wp2_with fail
      refine (impl_Poset_all.calls _ _ l a _ ?s1 ?s2 HA.out).mono ?_
      case s1 => exact Kd.C_below HR.out HST.out.below
      case s2 => exact HC.out
      rintro e w1 ⟨rfl, hb⟩
      have HST1 := Aside0.mk (FewSt.keep HST.out hb)
      have KP1 := Aside0.mk (Kept.below (Kept.refl W (fun k_ => k_ = go ∨ k_ = gw ∨ okx k_)) hb)
      clear HST hb
      have hz2 : w1.cell? ⟨gp, 0, none⟩ = some (.slice A l.length c) := (blk_cell HST1.out.hp 0).trans rfl
      go_wp2_with fail
      refine (impl_Poset_next.calls k A c l s es _ ?s1 HC.out HES.out).mono ?_
      case s1 => exact Kd.C_below HR.out HST1.out.below
      rintro e w2 ⟨ve, rfl, hRe, hb2⟩
      obtain ⟨Ae, ce, rfl⟩ := Kd.R_slice hRe
      have HSN := FewSt.narrow HST1.out hb2 hRe
      have KP2 := Aside0.mk (Kept.below KP1.out hb2)
      generalize hbe : (Value.slice Ae es.length ce).ownBlock = be at HSN
      obtain ⟨HST2, HE⟩ := HSN
      replace HST2 := Aside0.mk HST2
      replace HE := Aside0.mk HE
      clear HST1 KP1 hb2 hRe hz2 hz1 hbe
      go_wp2_with fail
      go_loopg [21] es.length (fun kq v21 w' => ∃ (x : Int) (j : Nat) (vo1 vw1 : Value) (o : List (List Int)), v21 = .int .i64 x ∧ Aside0 (x = (j : Int) ∧ j ≤ es.length ∧ kq = es.length - j) ∧ Aside0 (FewSt w0 w' (fun k_ => okx k_ ∧ some k_ ≠ be) gp go gw gf A c l vo1 vw1 o ws)
        ∧ Aside0 ((es.drop j).foldlM (fun o e => if 0 ≤ e then impl_few_1.f k l (Go.bits .or .i64 s (wrap64 (2 ^ min e.toNat 64))) o (ws ++ [e]) else none) o = some outs')
        ∧ Aside0 (Kd.R (Kd.int .i64) 3 w' w0.heap.size (fun k_ => some k_ = be ∧ k_ ≠ go ∧ k_ ≠ gw) (.slice Ae es.length ce) es) ∧ Aside0 (Kept W w' (fun k_ => k_ = go ∨ k_ = gw ∨ okx k_)))
      case atStart => exact ⟨0, 0, vo, vw, outs, rfl, ⟨rfl, Nat.zero_le _, rfl⟩, HST2, ⟨by rw [List.drop_zero]; exact HF.out⟩, HE, KP2⟩
      case round =>
        obtain ⟨x, j, vo1, vw1, o, rfl, HJ, HS, HF1, HE1, KP3⟩ := hrel
        clear HST2 HF HE KP2
        by_cases cj : x < (es.length : Int)
        · have cjb : decide (x < (es.length : Int)) = true := decide_eq_true cj
          have p1 : (0 : Int) ≤ x := by have := HJ.out; omega
          obtain ⟨ade, ee, hxe⟩ := Kd.at_int (Kd.R_reads' HE1.out).2.2 x p1 cj
          cases ee
          have hjl : j < es.length := by have := HJ.out; omega
          have hds := HF1.out
          have hrd : es[j] = rd es x := by have := HJ.out; rw [this.1]; simp [rd, hjl]
          rw [List.drop_eq_getElem_cons hjl, List.foldlM_cons, hrd] at hds
          generalize rd es x = y at hds hxe
          clear hrd HF1
          split at hds
          case isFalse => cases hds
          rename_i hy0
          replace hds := Option.bind_eq_some_iff.mp hds
          obtain ⟨o2, ho2, hds⟩ := hds
          have HO2 := Aside0.mk ho2
          have HF2 := Aside0.mk hds
          have HJL := Aside0.mk hjl
          replace p1 := eq_true p1
          replace cj := eq_true cj
          clear ho2 hds hjl
          have hz3 : wr.cell? ⟨gw, 0, none⟩ = some vw1 := (blk_cell HS.out.hw 0).trans rfl
          have hf3 : wr.frozen? ⟨gw, 0, none⟩ = false := blk_frozen HS.out.hw 0
          obtain ⟨Aw, cw, hvw⟩ := Kd.R_slice HS.out.rw_
          subst hvw
          have hlw := blk_lt HS.out.hw
          go_wp2_with (first | ((with_reducible refine gate_builtin (b := .append) (xs := #[.tmp 25, .tmp 27]) rfl ?_); at_builtin; refine Kd.R_append (Kd.int .i64) (w0 := w0) w0.heap.size rfl (.tmp 25) (.tmp 27) 22 3 (.int .i64 0) 8 rfl Try.underlying22 info3 rfl (by decide) (by omega) (.slice Aw ws.length cw) ws y [.int .i64 y] (fun k_ => okx k_ ∧ some k_ ≠ be) (fun _ => False) rfl rfl ?aP (fun _ hk => hk.elim) ?aF ?aO ?aB ?aS ?aL ?_; (case aP => exact rfl); (case aB => exact HS.out.below); (case aF => exact HS.out.fresh); (case aO => exact HS.out.rw_); (case aS => exact HS.out.below.size); (case aL => have := HWL.out; omega); intro v1 w3 hR3 hB3 hg3 hat3; obtain ⟨A1, c1, e1⟩ := Kd.R_slice hR3; subst e1; have HPU := Aside0.mk (few_push HS.out hR3 hB3 hg3 hat3); have HE2 := Aside0.mk (Kd.R_grown HE1.out hg3 (fun k_ hk => fun e => (HS.out.rw_.1 k_ e.symm).2 hk.1)); have HG3 := Aside0.mk (blk_grown HS.out.hw hg3 (fun e => by obtain ⟨cells, hc⟩ := Kd.R_typed HS.out.rw_ gw e.symm; rw [HS.out.hw] at hc; cases hc)); have hf4 : w3.frozen? ⟨gw, 0, none⟩ = false := blk_frozen HG3.out 0; have hz4 : w3.cell? ⟨gw, 0, none⟩ = some (.slice Aw ws.length cw) := (blk_cell HG3.out 0).trans rfl; clear hR3 hB3 hg3 hat3))
          rw [List.length_append, List.length_singleton] at HPU
          have HS4 := Aside0.mk HPU.out.1
          have KP4 := Aside0.mk (KP3.out.then_ HPU.out.2 (fun k_ h_ => .inl (h_.elim (fun e_ => .inr (.inl e_)) (fun e_ => .inr (.inr e_.1)))))
          have HE4 := Aside0.mk (Kd.R_set HE2.out HG3.out (by decide) 0 (.slice A1 (ws.length + 1) c1))
          clear HPU HE2 HG3 hf4 hz4 HS KP3 HE1 hz3 hf3 hlw hxe
          generalize w3.setCell ⟨gw, 0, none⟩ (.slice A1 (ws.length + 1) c1) = w4 at HS4 KP4 HE4 ⊢
          replace HS4 := Aside0.mk (HS4.out.keep (below_drew (Below.refl _ _)))
          replace KP4 := Aside0.mk (Kept.drew KP4.out)
          replace HE4 := Aside0.mk (Kd.R_drew HE4.out)
          have hz4 : w4.drew.cell? ⟨gf, 0, none⟩ = some (.func (.func 49) #[] #[.pointer (some ⟨gp, 0, none⟩), .pointer (some ⟨go, 0, none⟩), .pointer (some ⟨gw, 0, none⟩), .pointer (some ⟨gf, 0, none⟩)]) := (blk_cell HS4.out.hf 0).trans rfl
          refine start_ (n := 6) (S := fun w' => w'.cell? ⟨gf, 0, none⟩ = some (.func (.func 49) #[] #[.pointer (some ⟨gp, 0, none⟩), .pointer (some ⟨go, 0, none⟩), .pointer (some ⟨gw, 0, none⟩), .pointer (some ⟨gf, 0, none⟩)])) (ds := []) #[false, false, false, false, false, false] (by kernel_rfl) rfl rfl hz4 (fun hHeld => ?_)
          generalize w4.drew = w5 at HS4 KP4 HE4 hHeld hz4 ⊢
          refine pure_ (i := 1) (N := some 30) (v := ?_) (a' := ?_) #[false, true, false, false, false, false] rfl rfl (by kernel_rfl) (fun _ _ _ h => h) (Or.inl ⟨by rfl, ?_⟩) ?_ ?_
          rotate_left
          · intro w'
            go_simp
            with_reducible rfl
          rotate_left
          · simp only [Act.put, List.setIfInBounds_toArray, List.set_cons_zero, List.set_cons_succ, i64_w, i32_w]
            rfl
          refine pure_ (i := 2) (N := some 31) (v := ?_) (a' := ?_) #[false, true, true, false, false, false] rfl rfl (by kernel_rfl) (fun _ _ _ h => h) (Or.inl ⟨by rfl, ?_⟩) ?_ ?_
          rotate_left
          · intro w'
            go_simp
            with_reducible rfl
          rotate_left
          · simp only [Act.put, List.setIfInBounds_toArray, List.set_cons_zero, List.set_cons_succ, i64_w, i32_w]
            rfl
          refine pure_ (i := 3) (N := some 32) (v := ?_) (a' := ?_) #[false, true, true, true, false, false] rfl rfl (by kernel_rfl) (fun _ _ _ h => h) (Or.inl ⟨by rfl, ?_⟩) ?_ ?_
          rotate_left
          · intro w'
            go_simp
            with_reducible rfl
          rotate_left
          · simp only [Act.put, List.setIfInBounds_toArray, List.set_cons_zero, List.set_cons_succ, i64_w, i32_w]
            rfl
          refine pure_ (i := 4) (N := some 33) (v := ?_) (a' := ?_) #[false, true, true, true, true, false] rfl rfl (by kernel_rfl) (fun _ _ _ h => h) (Or.inl ⟨by rfl, ?_⟩) ?_ ?_
          rotate_left
          · intro w'
            go_simp
            with_reducible rfl
          rotate_left
          · simp only [Act.put, List.setIfInBounds_toArray, List.set_cons_zero, List.set_cons_succ, i64_w, i32_w]
            rfl
          refine take_ (i := 0) (N := some 29) (v := ?_) (a' := ?_) #[true, true, true, true, true, false] rfl rfl (by kernel_rfl) (fun _ _ _ h => h) (Or.inl ⟨by rfl, ?_⟩) hHeld ?_ ?_
          rotate_left
          · intro w' s0
            go_simp
            with_reducible rfl
          rotate_left
          · simp only [Act.put, List.setIfInBounds_toArray, List.set_cons_zero, List.set_cons_succ, i64_w, i32_w]
            rfl
          refine one_ (i := 5) (N := some 34) #[true, true, true, true, true, true] rfl rfl (by kernel_rfl) (by decide) (fun K hK => ?_)
          refine goesR_ (v := .func (.func 49) #[] #[.pointer (some ⟨gp, 0, none⟩), .pointer (some ⟨go, 0, none⟩), .pointer (some ⟨gw, 0, none⟩), .pointer (some ⟨gf, 0, none⟩)]) (t := 29) rfl #[.int .i64 (Go.bits .or .i64 s (wrap64 (2 ^ min y.toNat 64)))] (by rfl) rfl rfl (by (try simp only [List.map_toArray, List.map_cons, List.map_nil]); rfl) ?_
          refine ⟨49, Try.f49, #[], _, rfl, Try.func49, by kernel_rfl, rfl, ?_⟩
          simp only [List.append_toArray, List.nil_append, List.cons_append]
          refine (HIH.out _ _ _ _ _ _ _ _ HS4.out HO2.out).mono ?_
          rintro e w6 ⟨rfl, vo2, vw2, HS6, KP6⟩
          refine ⟨_, rfl, ?_⟩
          have hok5 : ∀ k_, (some k_ = be ∧ k_ ≠ go ∧ k_ ≠ gw) → ¬ (k_ = go ∨ k_ = gw ∨ (okx k_ ∧ some k_ ≠ be)) := fun k_ hk h_ => h_.elim hk.2.1 (fun h2_ => h2_.elim hk.2.2 (fun h3_ => h3_.2 hk.1))
          have HE6 := Aside0.mk (Kd.R_kept HE4.out KP6 hok5)
          have KP7 := Aside0.mk (KP4.out.then_ KP6 (fun k_ h_ => .inl (h_.elim .inl (fun h2_ => h2_.elim (fun e_ => .inr (.inl e_)) (fun e_ => .inr (.inr e_.1))))))
          replace HS6 := Aside0.mk HS6
          clear HS4 HE4 KP6 KP4 hz4
          have hz6 : w6.cell? ⟨gf, 0, none⟩ = some (.func (.func 49) #[] #[.pointer (some ⟨gp, 0, none⟩), .pointer (some ⟨go, 0, none⟩), .pointer (some ⟨gw, 0, none⟩), .pointer (some ⟨gf, 0, none⟩)]) := (blk_cell HS6.out.hf 0).trans rfl
          refine hK.out _ _ hz6 (fun hHeld => ?_)
          clear hK K hz6
          refine done_ (by kernel_rfl) ?_
          have hz7 : w6.cell? ⟨gw, 0, none⟩ = some vw2 := (blk_cell HS6.out.hw 0).trans rfl
          have hf7 : w6.frozen? ⟨gw, 0, none⟩ = false := blk_frozen HS6.out.hw 0
          obtain ⟨Aw2, cw2, hvw2⟩ := Kd.R_slice HS6.out.rw_
          subst hvw2
          have hwr : wrap64 (ws.length : Int) = (ws.length : Int) := by have := HWL.out; unfold wrap64; omega
          have hcc : ws.length ≤ cw2 := by have := (Kd.R_reads' HS6.out.rw_).2.1; rw [List.length_append, List.length_singleton] at this; omega
          have PO := few_pop HS6.out (m := ws.length) (ws := ws) (by rw [List.length_append]; omega) (by rw [List.take_left' rfl])
          have HS7 := Aside0.mk PO.1
          have KP8 := Aside0.mk (KP7.out.then_ PO.2 (fun k_ h_ => .inl (h_.elim (fun e_ => .inr (.inl e_)) (fun e_ => .inr (.inr e_.1)))))
          have HE7 := Aside0.mk (Kd.R_set HE6.out HS6.out.hw (by decide) 0 (.slice Aw2 ws.length cw2))
          clear PO HS6 KP7 HE6
          go_wp2_with fail
          go_roundg (es.length - (j + 1))
          case measure => have := HJ.out; have := HJL.out; omega
          case rel => exact ⟨wrap64 (x + 1), j + 1, _, _, _, rfl, ⟨by have := HJ.out.1; have := HJL.out; have := ELM.out; unfold wrap64; omega, HJL.out, rfl⟩, HS7, HF2, HE7, KP8⟩
        · have cjb : decide (x < (es.length : Int)) = false := decide_eq_false cj
          have hF3 : o = outs' := by
            have h1 := HJ.out
            have h2 := HF1.out
            rw [show j = es.length by omega, List.drop_length] at h2
            exact Option.some.inj h2
          subst hF3
          clear cj
          go_wp2_with fail
          refine bodyPost_end (results_none rfl _ _ _) rfl ?_
          exact ⟨rfl, _, _, HS.out.wide, KP3.out⟩


/-! ### impl_few: by hand -/
theorem blk_new_ (w : World) (o : Obj) : (w.alloc o).heap[w.heap.size]? = some o := by unfold World.alloc; exact Array.getElem?_push_size
theorem blk_alloc_ {w : World} {g : Nat} {o : Obj} (h : w.heap[g]? = some o) (x : Obj) : (w.alloc x).heap[g]? = some o := (below_alloc (Below.refl w.heap.size w) x).block g (blk_lt h) |>.trans h
theorem run_store_fn_ {P : Program} {w : World} (a : Addr) (m : Mode) (fn : Fn) (first captured : Array Value) : (store a (.func fn first captured) m).run P w = stored P w a (.func fn first captured) m := run_store P w a _ m rfl
attribute [local go_sem] run_store_fn_
theorem alloc_size_ (w : World) (o : Obj) : (w.alloc o).heap.size = w.heap.size + 1 := by unfold World.alloc; exact Array.size_push _
theorem few_start {w w3 w4 w5 : World} {gp : Nat} {A : Option Addr} {c : Nat} {l : List Int} {vo vw : Value} (hgp : w3.heap[gp]? = some (.cells #[.slice A l.length c] 29 (0, 0)))
    (hS : Kd.S (Kd.slice 3 (Kd.int .i64)) 22 w4 w.heap.size (fun _ => True) vo []) (hg4 : w3.grownBy w4 none) (hR : Kd.R (Kd.int .i64) 3 w5 w.heap.size (fun _ => True) vw []) (hg5 : w4.grownBy w5 none) (hn5 : ∃ b, vw.ownBlock = some b ∧ w4.heap.size ≤ b) (hB5 : Below w.heap.size w w5) :
    FewSt w (((w5.alloc (.cells #[vo] 31)).alloc (.cells #[vw] 22)).alloc (.cells #[(.func (.func 49) #[] #[.pointer (some ⟨gp, 0, none⟩), .pointer (some ⟨w5.heap.size, 0, none⟩), .pointer (some ⟨w5.heap.size + 1, 0, none⟩), .pointer (some ⟨w5.heap.size + 1 + 1, 0, none⟩)])] 64)) (fun _ => True) gp w5.heap.size (w5.heap.size + 1) (w5.heap.size + 1 + 1) A c l vo vw [] [] := by
  have s1 : (w5.alloc (.cells #[vo] 31)).heap.size = w5.heap.size + 1 := alloc_size_ _ _
  have s2 : ((w5.alloc (.cells #[vo] 31)).alloc (.cells #[vw] 22)).heap.size = w5.heap.size + 1 + 1 := by rw [alloc_size_, alloc_size_]
  have b1 := blk_new_ w5 (.cells #[vo] 31)
  have b2 := blk_new_ (w5.alloc (.cells #[vo] 31)) (.cells #[vw] 22)
  have b3 := blk_new_ ((w5.alloc (.cells #[vo] 31)).alloc (.cells #[vw] 22)) (.cells #[(.func (.func 49) #[] #[.pointer (some ⟨gp, 0, none⟩), .pointer (some ⟨w5.heap.size, 0, none⟩), .pointer (some ⟨w5.heap.size + 1, 0, none⟩), .pointer (some ⟨w5.heap.size + 1 + 1, 0, none⟩)])] 64)
  rw [s1] at b2
  rw [s2] at b3
  have p5 := blk_grown (blk_grown hgp hg4 (by simp)) hg5 (by simp)
  have p8 := blk_alloc_ (blk_alloc_ (blk_alloc_ p5 (.cells #[vo] 31)) (.cells #[vw] 22)) (.cells #[(.func (.func 49) #[] #[.pointer (some ⟨gp, 0, none⟩), .pointer (some ⟨w5.heap.size, 0, none⟩), .pointer (some ⟨w5.heap.size + 1, 0, none⟩), .pointer (some ⟨w5.heap.size + 1 + 1, 0, none⟩)])] 64)
  have hsz := hB5.size
  refine ⟨p8, blk_alloc_ (blk_alloc_ b1 _) _, blk_alloc_ b2 _, b3, ?_, Kd.R_alloc (Kd.R_alloc (Kd.R_alloc hR _) _) _, by omega, by omega, ((hB5.alloc hsz _).alloc (by rw [s1]; omega) _).alloc (by rw [s2]; omega) _, fun _ _ => trivial⟩
  have h5 : Kd.S (Kd.slice 3 (Kd.int .i64)) 22 w5 w.heap.size (fun k => k < w5.heap.size ∧ some k ≠ vw.ownBlock) vo [] := Kd.S_mono (Kd.S_grown (Kd.S_bound hS) hg5 (by simp)) (fun k hk => ⟨Nat.lt_of_lt_of_le hk.2.2.1 hg5.size, fun e => by
    obtain ⟨b, hb, hle⟩ := hn5
    rw [hb] at e
    injection e with e
    have := hk.2.2.1
    omega⟩)
  exact Kd.S_mono (Kd.S_alloc (Kd.S_alloc (Kd.S_alloc h5 _) _) _) (fun k hk => ⟨trivial, by have := hk.1; omega, hk.2⟩)
def impl_few.f (k : Nat) (l : List Int) : Option (List (List Int) × Bool) := (impl_IsPoset.f k l).bind fun b => if b = true then ((impl_Poset_ways.f k l).bind fun ws => if 0 < ws.length then (if 500 < rd ws 0 then some ([], false) else (impl_few_1.f k l 0 [] []).bind fun outs => some (outs, true)) else none) else some ([], false)
set_option maxRecDepth 100000 in
set_option maxHeartbeats 4000000 in
theorem impl_few.calls (k : Nat) (A0_0 : Option Addr) (c0_0 : Nat) (l0_0 : List Int) (r1 : List (List Int)) (r2 : Bool) (w : World) (hr0_0 : Kd.C (Kd.int .i64) w A0_0 l0_0.length l0_0) (hc0_0 : l0_0.length ≤ c0_0) (h : impl_few.f k l0_0 = some (r1, r2)) :
    Calls Try.prog 39 #[.agg #[.slice A0_0 l0_0.length c0_0]] w fun e w' => ∃ v0_ : Value, e = .returned (.tuple #[v0_, .bool r2]) ∧ Kd.S (Kd.slice 3 (Kd.int .i64)) 22 w' w.heap.size (fun _ => True) v0_ r1 ∧ Below w.heap.size w w' := by
  have hu29 := Try.underlying29
  unfold impl_few.f at h
  replace h := Option.bind_eq_some_iff.mp h
  obtain ⟨b, hb, h⟩ := h
  have HB_ := Aside0.mk hb
  have HR := Aside0.mk hr0_0
  have HC := Aside0.mk hc0_0
  clear hb hr0_0 hc0_0
  cases b with
  | false =>
    simp only [Bool.false_eq_true, if_false, Option.some.injEq, Prod.mk.injEq] at h
    obtain ⟨rfl, rfl⟩ := h
    go_enter Try.func39, Try.ntmps39
    go_wp2_with fail
    have BG := Aside0.mk (show (w.alloc (.cells #[.slice A0_0 l0_0.length c0_0] 29)).heap[w.heap.size]? = some (.cells #[.slice A0_0 l0_0.length c0_0] 29 (0, 0)) from blk_new_ _ _)
    have hB0 := Aside0.mk (below_alloc (Below.refl w.heap.size w) (.cells #[.slice A0_0 l0_0.length c0_0] 29))
    generalize w.alloc (.cells #[.slice A0_0 l0_0.length c0_0] 29) = w1 at BG hB0 ⊢
    refine (impl_IsPoset.calls k _ _ l0_0 _ _ (Kd.C_below HR.out hB0.out) HC.out HB_.out).mono ?_
    rintro e w2 ⟨rfl, hb2⟩
    have hB2 := Aside0.mk (below_step hB0.out hb2)
    clear BG hb2 hB0
    go_wp2_with fail
    go_ret2
    exact ⟨_, rfl, Kd.S_nil _ _ _ _ _, hB2.out⟩
  | true =>
    rw [if_pos rfl] at h
    replace h := Option.bind_eq_some_iff.mp h
    obtain ⟨ws, hws, h⟩ := h
    have HW_ := Aside0.mk hws
    split at h
    case isFalse => cases h
    rename_i hl0
    clear hws
    go_enter Try.func39, Try.ntmps39
    go_wp2_with fail
    have BG := Aside0.mk (show (w.alloc (.cells #[.slice A0_0 l0_0.length c0_0] 29)).heap[w.heap.size]? = some (.cells #[.slice A0_0 l0_0.length c0_0] 29 (0, 0)) from blk_new_ _ _)
    have hB0 := Aside0.mk (below_alloc (Below.refl w.heap.size w) (.cells #[.slice A0_0 l0_0.length c0_0] 29))
    have HGE := Aside0.mk (Nat.le_refl w.heap.size)
    generalize hgp : w.heap.size = gp at BG
    rw [hgp] at HGE
    have HGP := Aside0.mk hgp
    generalize w.alloc (.cells #[.slice A0_0 l0_0.length c0_0] 29) = w1 at BG hB0 ⊢
    clear hgp
    refine (impl_IsPoset.calls k _ _ l0_0 _ _ (Kd.C_below HR.out hB0.out) HC.out HB_.out).mono ?_
    rintro e w2 ⟨rfl, hb2⟩
    have hB2 := Aside0.mk (below_step hB0.out hb2)
    have BG2 := Aside0.mk (blk_below BG.out hb2)
    have hz1 : w2.cell? ⟨gp, 0, none⟩ = some (.slice A0_0 l0_0.length c0_0) := (blk_cell BG2.out 0).trans rfl
    clear BG hb2 hB0
    go_wp2_with fail
    refine (impl_Poset_ways.calls k _ _ l0_0 _ _ (Kd.C_below HR.out hB2.out) HC.out HW_.out).mono ?_
    rintro e w3 ⟨vw, rfl, hRw, hb3⟩
    have hB3 := Aside0.mk (below_step hB2.out hb3)
    have BG3 := Aside0.mk (blk_below BG2.out hb3)
    clear BG2 hB2 hz1 hb3
    obtain ⟨Aw, cw, rfl⟩ := Kd.R_slice hRw
    have c0 : (0 : Int) < (ws.length : Int) := by omega
    obtain ⟨adw, ew, hxw⟩ := Kd.at_int (Kd.R_reads' hRw).2.2 0 (by omega) c0
    cases ew
    generalize rd ws 0 = z at h hxw
    rw [show adw.add (0 : Int).toNat = adw from by cases adw; rfl] at hxw
    clear hRw
    split at h
    · rename_i hz
      have hzb : decide (z > 500) = true := decide_eq_true hz
      simp only [Option.some.injEq, Prod.mk.injEq] at h
      obtain ⟨rfl, rfl⟩ := h
      clear hz
      go_wp2_with fail
      go_ret2
      exact ⟨_, rfl, Kd.S_nil _ _ _ _ _, hB3.out⟩
    · rename_i hz
      have hzb : decide (z > 500) = false := decide_eq_false hz
      replace h := Option.bind_eq_some_iff.mp h
      obtain ⟨outs, ho, h⟩ := h
      simp only [Option.some.injEq, Prod.mk.injEq] at h
      obtain ⟨rfl, rfl⟩ := h
      have HO := Aside0.mk ho
      clear hz ho
      go_wp2_with (first
        | ((with_reducible refine gate_dst (N := 17) rfl ?_); refine Kd.S_lit (w0 := w) (Kd.slice 3 (Kd.int .i64)) w.heap.size 22 ?hg (N := 17) ?hd (xs := ([] : List (List Int))) (inner := []) (ok := fun _ => True) (okp := fun _ => True) ?hr ?hp (fun _ hk => hk) trivial hB3.out hB3.out.size (by simp) ?_; (case hd => rfl); (case hg => rfl); (case hr => first | (go_simp; done) | (go_simp; rfl)); (case hp => exact (Reps.none _ _)); intro vo w4 hS4 hB4 hg4 hn4; obtain ⟨Ao, co, eo⟩ := Kd.S_slice hS4; rw [List.length_nil] at eo; subst eo; have HS4 := Aside0.mk hS4; have HB4 := Aside0.mk hB4; have HG4 := Aside0.mk hg4; clear hS4 hB4 hg4 hn4 hxw)
        | ((with_reducible refine gate_dst (N := 18) rfl ?_); refine Kd.R_lit (w0 := w) (Kd.int .i64) w.heap.size 3 ?hg (N := 18) ?hd (xs := ([] : List Int)) (inner := []) (ok := fun _ => True) (okp := fun _ => True) ?hr ?hp (fun _ hk => hk) trivial HB4.out HB4.out.size (by simp) ?_; (case hd => rfl); (case hg => rfl); (case hr => first | (go_simp; done) | (go_simp; rfl)); (case hp => exact (Reps.none _ _)); intro vw w5 hR5 hB5 hg5 hn5; obtain ⟨Av, cv, ev⟩ := Kd.R_slice hR5; rw [List.length_nil] at ev; subst ev; have HST0 := Aside0.mk (few_start BG3.out HS4.out HG4.out hR5 hg5 hn5 hB5); clear hR5 hB5 hg5 hn5 HS4 HB4 HG4 BG3))
      have HST := HST0
      clear HST0
      generalize (((w5.alloc (.cells #[.slice Ao 0 co] 31)).alloc (.cells #[.slice Av 0 cv] 22)).alloc (.cells #[(.func (.func 49) #[] #[.pointer (some ⟨gp, 0, none⟩), .pointer (some ⟨w5.heap.size, 0, none⟩), .pointer (some ⟨w5.heap.size + 1, 0, none⟩), .pointer (some ⟨w5.heap.size + 1 + 1, 0, none⟩)])] 64)) = W2 at HST ⊢
      generalize w5.heap.size + 1 + 1 = gf at HST ⊢
      generalize w5.heap.size + 1 = gw at HST ⊢
      generalize w5.heap.size = go at HST ⊢
      refine (impl_few_1.calls w gp go gw gf _ _ l0_0 HR.out HC.out k 0 W2 _ _ _ _ _ _ HST.out HO.out).mono ?_
      rintro e w6 ⟨rfl, vo2, vw2, hst6, hk6⟩
      have HST6 := Aside0.mk hst6
      clear hst6 hk6 HST
      have hz6 : w6.cell? ⟨go, 0, none⟩ = some vo2 := (blk_cell HST6.out.ho 0).trans rfl
      obtain ⟨Ao2, co2, eo2⟩ := Kd.S_slice HST6.out.so
      subst eo2
      go_wp2_with fail
      go_ret2
      exact ⟨_, rfl, Kd.S_mono HST6.out.so (fun _ _ => trivial), HST6.out.below⟩

/-! ### arrays of ten whole numbers: by hand -/
/-- A list of ten numbers as an array's value, and its cells. -/
def lineC (x : List Int) : Array Value := (x.map (Value.int .i64)).toArray
abbrev lineV (x : List Int) : Value := .agg (lineC x)
theorem lineC_size (x : List Int) : (lineC x).size = x.length := by simp [lineC]
theorem lineC_one (x : List Int) : (lineC x).all (·.oneCell') = true := by
  refine Array.all_eq_true_iff_forall_mem.2 (fun v hv => ?_)
  obtain ⟨n, _, rfl⟩ := List.mem_map.1 (by simpa [lineC] using hv)
  rfl
theorem lineI : (Try.prog.info? 51).map (·.size) = some 10 := by kernel_rfl
theorem lineZ : (Try.prog.info? 51).map (fun i => (i.zero, i.size)) = some (some (lineV (List.replicate 10 0)), 10) := by kernel_rfl
theorem line_new (w : World) (o : Obj) : (w.alloc o).heap[w.heap.size]? = some o := by unfold World.alloc; exact Array.getElem?_push_size
theorem line_old {w : World} {g : Nat} {o : Obj} (h : w.heap[g]? = some o) (x : Obj) : (w.alloc x).heap[g]? = some o := (below_alloc (Below.refl w.heap.size w) x).block g (blk_lt h) |>.trans h
theorem line_size (w : World) (o : Obj) : (w.alloc o).heap.size = w.heap.size + 1 := by unfold World.alloc; exact Array.size_push _
theorem setRow_same {w : World} {g t : Nat} {cs : Array Value} (h : w.heap[g]? = some (.cells cs t (0, 0))) (c2 : Array Value) : (w.setRow g c2).heap[g]? = some (.cells c2 t (0, 0)) := by
  simp [World.setRow, Array.getElem?_modify, h]
theorem setRow_far {w : World} {g g2 : Nat} (h : g2 ≠ g) (c2 : Array Value) : (w.setRow g c2).heap[g2]? = w.heap[g2]? := by
  simp [World.setRow, Array.getElem?_modify, Ne.symm h]
theorem setRow_below {w0 w : World} {g : Nat} {c2 : Array Value} (h : Below w0.heap.size w0 w) (hg : w0.heap.size ≤ g) : Below w0.heap.size w0 (w.setRow g c2) :=
  ⟨h.os, h.tape, h.output, by simpa using h.size, fun k hk => (setRow_far (by omega) c2).trans (h.block k hk)⟩
section
variable {P : Program} {ops : Array Oper} {rest : List Oper} {o : Oper} {a : Act} {w : World} {Q : Exit → Act → World → Prop}
/-- A whole array is read. -/
theorem line_load {x : Operand} (ty : TypeId) (hgd : o.guard = none) (ho : o.op = .load ty x) (g : Nat) (hx : a.eval x = .pointer (some ⟨g, 0, none⟩)) {t : TypeId} {l : List Int} (hg : w.heap[g]? = some (.cells (lineC l) t (0, 0))) {d : TypeDesc}
    (hu : P.underlying ty = some d) (hd : (match d with | .struct _ | .array _ _ => true | _ => false) = true) (hi : (P.info? ty).map (·.size) = some 10) (hl : l.length = 10) (h : wpList P ops Q rest (a.put o.dst (lineV l)) w) : wpList P ops Q (o :: rest) a w :=
  wpList_load_row hgd ty x ho g hx t (lineC l) (0, 0) d hg hu hd (by rw [hi, lineC_size, hl]) h
/-- .. and written. -/
theorem line_store {x y : Operand} (ty : TypeId) (hgd : o.guard = none) (hN : o.dst = none) (ho : o.op = .store ty x y) (g : Nat) (hx : a.eval x = .pointer (some ⟨g, 0, none⟩)) {t : TypeId} {l l2 : List Int} (hg : w.heap[g]? = some (.cells (lineC l) t (0, 0))) (hy : a.eval y = lineV l2)
    (hi : (P.info? ty).map (·.size) = some 10) (hl : l.length = 10) (hl2 : l2.length = 10) (h : wpList P ops Q rest a (w.setRow g (lineC l2))) : wpList P ops Q (o :: rest) a w := by
  refine wpList_plain hgd fun K hK => ?_
  have hr := run_storeVar_row (P := P) w g t ty (lineC l) (lineC l2) hg (by rw [hi, lineC_size, hl2]) (by rw [lineC_size, lineC_size, hl, hl2]) (lineC_one l2)
  unfold Oper.wp execOp
  simp only [ho, hx, hy, lineV, Instr.storeAt, Instr.sureAddr, Sem.run_bind, Sem.run_pure, Result.andThen_ok, hr]
  show K (a.put o.dst undef) _
  rw [hN]
  exact hK _ _ h
end
theorem line_src {w : World} {A : Option Addr} {l : List Int} (h : Kd.C (Kd.int .i64) w A l.length l) (hp : 0 < (l.map (Value.int .i64)).length) : ∃ ad, A = some ad ∧ ∀ j v, (l.map (Value.int .i64))[j]? = some v → w.cell? (ad.add j) = some v := by
  rw [List.length_map] at hp
  obtain ⟨ad, hA, _⟩ := Kd.at_int h 0 (by omega) (by omega)
  refine ⟨ad, hA, fun j v hj => ?_⟩
  rw [List.getElem?_map, Option.map_eq_some_iff] at hj
  obtain ⟨n, hn, rfl⟩ := hj
  have hjl := (List.getElem?_eq_some_iff.1 hn).1
  obtain ⟨ad', hA', hc⟩ := Kd.at_int h (j : Int) (by omega) (by omega)
  rw [hA] at hA'
  obtain rfl := Option.some.inj hA'
  rw [Int.toNat_natCast] at hc
  rw [hc]
  simp [rd, List.getD_eq_getElem?_getD, hn]
theorem line_splice {l r : List Int} (hl : l.length ≤ 10) (h : l ++ List.replicate (10 - l.length) 0 = r) : (splice (lineC (List.replicate 10 0)).toList 0 (l.map (Value.int .i64))).toArray = lineC r := by
  subst h
  simp only [splice, lineC, List.take_zero, List.nil_append, Nat.zero_add, List.length_map, List.toList_toArray, List.map_append, List.map_replicate, List.drop_replicate]
theorem below_weaken_ {B B' : Nat} {w w' : World} (h : Below B w w') (hb : B' ≤ B) : Below B' w w' := ⟨h.os, h.tape, h.output, h.size, fun k hk => h.block k (by omega)⟩
theorem lineC_get (x : List Int) (i : Int) (h0 : 0 ≤ i) (h1 : i < (x.length : Int)) : (lineC x)[i.toNat]? = some (.int .i64 (rd x i)) := by
  have h : i.toNat < x.length := by omega
  simp [lineC, rd, List.getD_eq_getElem?_getD, h]
theorem line_cell {w : World} {g : Nat} {t : TypeId} {x : List Int} (h : w.heap[g]? = some (.cells (lineC x) t (0, 0))) (i : Int) (h0 : 0 ≤ i) (h1 : i < (x.length : Int)) : w.cell? ⟨g, i.toNat, none⟩ = some (.int .i64 (rd x i)) := (blk_cell h _).trans (lineC_get x i h0 h1)
theorem line_set {w : World} {g : Nat} {t : TypeId} {x : List Int} (h : w.heap[g]? = some (.cells (lineC x) t (0, 0))) (i : Nat) (y : Int) : (w.setCell ⟨g, i, none⟩ (.int .i64 y)).heap[g]? = some (.cells (lineC (x.set i y)) t (0, 0)) := by
  have := blk_set h i (.int .i64 y)
  rw [this]
  simp [lineC, List.map_set]


/-! ### impl_lineOf: by hand -/
def impl_lineOf.f (l : List Int) : Option (List Int) := if l.length ≤ 10 then some (l ++ List.replicate (10 - l.length) 0) else none
set_option maxRecDepth 100000 in
set_option maxHeartbeats 4000000 in
theorem impl_lineOf.calls (A0 : Option Addr) (c0 : Nat) (l0 : List Int) (r : List Int) (w : World) (hr0 : Kd.C (Kd.int .i64) w A0 l0.length l0) (hc0 : l0.length ≤ c0) (h : impl_lineOf.f l0 = some r) :
    Calls Try.prog 40 #[.slice A0 l0.length c0] w fun e w' => e = .returned (lineV r) ∧ r.length = 10 ∧ Below w.heap.size w w' := by
  unfold impl_lineOf.f at h
  split at h
  case isFalse => cases h
  rename_i hl
  have HR := Aside0.mk hr0
  have HC := Aside0.mk hc0
  have HL := Aside0.mk hl
  have HH := Aside0.mk (Option.some.inj h)
  have HLR := Aside0.mk (show r.length = 10 by rw [← HH.out, List.length_append, List.length_replicate]; omega)
  clear hr0 hc0 hl h
  go_enter Try.func40, Try.ntmps40
  have hb1 := line_new w (.cells (lineC (List.replicate 10 0)) 51)
  have hb2 := line_new (w.alloc (.cells (lineC (List.replicate 10 0)) 51)) (.cells (lineC (List.replicate 10 0)) 51)
  have hs1 := line_size w (.cells (lineC (List.replicate 10 0)) 51)
  rw [hs1] at hb2
  have HB0 := Aside0.mk (below_alloc (below_alloc (Below.refl w.heap.size w) (.cells (lineC (List.replicate 10 0)) 51)) (.cells (lineC (List.replicate 10 0)) 51))
  have HB1 : Below (w.heap.size + 1) (w.alloc (.cells (lineC (List.replicate 10 0)) 51)) ((w.alloc (.cells (lineC (List.replicate 10 0)) 51)).alloc (.cells (lineC (List.replicate 10 0)) 51)) := (Below.refl _ _).alloc (by rw [hs1]; exact Nat.le_refl _) _
  have hC2 := Kd.C_below HR.out HB0.out
  replace HB1 := Aside0.mk HB1
  have HC2 := Aside0.mk hC2
  have HS1 := Aside0.mk hs1
  have HV1 := Aside0.mk hb1
  have HV2 := Aside0.mk hb2
  clear hb1 hb2 hs1 hC2
  replace HB1 : Aside0 (Below (w.heap.size + 1) (w.alloc (.cells #[.int .i64 0, .int .i64 0, .int .i64 0, .int .i64 0, .int .i64 0, .int .i64 0, .int .i64 0, .int .i64 0, .int .i64 0, .int .i64 0] 51)) ((w.alloc (.cells #[.int .i64 0, .int .i64 0, .int .i64 0, .int .i64 0, .int .i64 0, .int .i64 0, .int .i64 0, .int .i64 0, .int .i64 0, .int .i64 0] 51)).alloc (.cells #[.int .i64 0, .int .i64 0, .int .i64 0, .int .i64 0, .int .i64 0, .int .i64 0, .int .i64 0, .int .i64 0, .int .i64 0, .int .i64 0] 51))) := HB1
  replace HC2 : Aside0 (Kd.C (Kd.int .i64) ((w.alloc (.cells #[.int .i64 0, .int .i64 0, .int .i64 0, .int .i64 0, .int .i64 0, .int .i64 0, .int .i64 0, .int .i64 0, .int .i64 0, .int .i64 0] 51)).alloc (.cells #[.int .i64 0, .int .i64 0, .int .i64 0, .int .i64 0, .int .i64 0, .int .i64 0, .int .i64 0, .int .i64 0, .int .i64 0, .int .i64 0] 51)) A0 l0.length l0) := HC2
  go_wp2_with (first
    | ((with_reducible refine gate_builtin (b := .copy) (xs := #[.tmp 5, .tmp 6]) rfl ?_); (refine wpList_copy_splice rfl (.tmp 5) (.tmp 6) 22 22 rfl 3 Try.underlying22 (by kernel_rfl) _ _ _ _ _ _ rfl rfl (w.heap.size + 1) 0 [.int .i64 0, .int .i64 0, .int .i64 0, .int .i64 0, .int .i64 0, .int .i64 0, .int .i64 0, .int .i64 0, .int .i64 0, .int .i64 0] 51 HV2.out (l0.map (Value.int .i64)) (by rw [List.length_map]; exact (Nat.min_eq_left HL.out).symm) (fun hp => ⟨rfl, line_src HC2.out hp⟩) (by rw [List.length_map]; have := HL.out; simp; omega) (by intro v hv; obtain ⟨n, _, rfl⟩ := List.mem_map.1 hv; rfl) (w.heap.size + 1) (w.alloc (.cells #[.int .i64 0, .int .i64 0, .int .i64 0, .int .i64 0, .int .i64 0, .int .i64 0, .int .i64 0, .int .i64 0, .int .i64 0, .int .i64 0] 51)) HB1.out (Nat.le_refl _) ?_); intro w1 h1 hb1; have HN := Aside0.mk ((show w1.heap[w.heap.size + 1]? = some (.cells (splice (lineC (List.replicate 10 0)).toList 0 (l0.map (Value.int .i64))).toArray 51 (0, 0)) from h1.out).trans (by rw [line_splice HL.out HH.out])); have HZ := Aside0.mk ((hb1.block w.heap.size (Nat.lt_succ_self _)).trans HV1.out); have HB2 := Aside0.mk ((below_alloc (Below.refl w.heap.size w) (.cells (lineC (List.replicate 10 0)) 51)).trans (below_weaken_ hb1 (Nat.le_succ _))); clear h1 hb1 HB0 HB1 HC2 HV1 HV2)
    | ((with_reducible refine gate_ (.load 51 (.tmp 3)) rfl ?_); refine line_load 51 rfl rfl (w.heap.size + 1) rfl HN.out Try.underlying51 rfl lineI HLR.out ?_)
    | ((with_reducible refine gate_ (.store 51 (.tmp 2) (.tmp 8)) rfl ?_); refine line_store 51 rfl rfl rfl w.heap.size rfl HZ.out rfl lineI (List.length_replicate ..) HLR.out ?_))
  (try simp only [Exit.inBlock, Exit.then])
  refine bodyPost_ret (results_cell_row rfl _ _ w.heap.size _ (lineC r) (0, 0) _ rfl (setRow_same HZ.out _) Try.underlying51 rfl (by rw [lineI, lineC_size, HLR.out])) rfl ?_
  exact ⟨rfl, HLR.out, setRow_below HB2.out (Nat.le_refl _)⟩


end Go.Proofs.Ytbmdbeboegdcaaa.PPg
