/- The walk of the law FnExactAllArrays: with the results that the plain law tells, the call returns true. -/
import Derived.Test.YtcajljndcddldaaPDax0
import Derived.Test.YtcajljndcddldaaPDax1
import Derived.Test.YtcajljndcddldaaPDax2
import Derived.Test.YtcajljndcddldaaPDax3
import Derived.Test.YtcajljndcddldaaPDax4
import Derived.Test.YtcajljndcddldaaPDax5
import Derived.Test.YtcajljndcddldaaPDax6
import Derived.Test.YtcajljndcddldaaPDax7
import Derived.Test.YtcajljndcddldaaPDax8
import Derived.Test.YtcajljndcddldaaPDax9
namespace Go.Proofs.Ytcajljndcddldaa.PDa
open Go.RowKit Go.Proofs.YtcajljndcddldaaW.PrintWords Go.Proofs.YtcajljndcddldaaW.PrintLast Go.Proofs.YtcajljndcddldaaW.PrintMore
set_option linter.unusedVariables false
set_option linter.unusedSimpArgs false
section
variable {α : Type} {d : Kd α} {e base a b : Nat} {w W W' : World} {v : Value} {xs : List α}
theorem iv_R (h : Kd.R d e W base (fun _ => True) v xs) : Kd.R d e W base (fun k => base ≤ k ∧ k < W.heap.size) v xs := Kd.R_mono (Kd.R_bound h) (fun _ hk => ⟨hk.2.1, hk.2.2.1⟩)
theorem iv_S (h : Kd.S d e W base (fun _ => True) v xs) : Kd.S d e W base (fun k => base ≤ k ∧ k < W.heap.size) v xs := Kd.S_mono (Kd.S_bound h) (fun _ hk => ⟨hk.2.1, hk.2.2.1⟩)
theorem iv_N (h : Kd.N d e W base (fun k => base ≤ k) v xs) : Kd.N d e W base (fun k => base ≤ k ∧ k < W.heap.size) v xs := Kd.N_bound h
end
theorem box_new_ (w : World) (o : Obj) : (w.alloc o).heap[w.heap.size]? = some o := by unfold World.alloc; exact Array.getElem?_push_size
/-- What the law holds behind both calls. -/
structure AAs (w W : World) (A : Option Addr) (c : Nat) (l : List Int) (g2 g8 : Nat) (Ax : Option Addr) (cx : Nat) (lx : List Int) (AS : Option Addr) (cS : Nat) (R : List (List Int)) (Ag : Option Addr) (cg : Nat) (Rg : List (List Int)) (n2 n3 n5 : Nat) : Prop where
  hx : Kd.R (Kd.int .i64) 3 W n3 (fun k => n3 ≤ k ∧ k < g8) (.slice Ax lx.length cx) lx
  hn : Kd.N (Kd.slice 3 (Kd.int .i64)) 22 W n2 (fun k => n2 ≤ k ∧ k < n3) (.slice AS R.length cS) R
  hs : Kd.S (Kd.slice 3 (Kd.int .i64)) 22 W n5 (fun k => n5 ≤ k ∧ k < W.heap.size) (.slice Ag Rg.length cg) Rg
  bx : W.heap[g2]? = some (.cells #[.slice A l.length c] 24 (0, 0))
  b8 : W.heap[g8]? = some (.cells #[.slice Ax lx.length cx] 29 (0, 0))
  hb : Below w.heap.size w W
  n38 : n3 ≤ g8
  n85 : g8 < n5
  n02 : g2 < n2
  n23 : n2 ≤ n3
  n0 : w.heap.size = g2
theorem AAs.below {w W W' : World} {A : Option Addr} {c : Nat} {l : List Int} {g2 g8 : Nat} {Ax : Option Addr} {cx : Nat} {lx : List Int} {AS : Option Addr} {cS : Nat} {R : List (List Int)} {Ag : Option Addr} {cg : Nat} {Rg : List (List Int)} {n2 n3 n5 : Nat}
    (h : AAs w W A c l g2 g8 Ax cx lx AS cS R Ag cg Rg n2 n3 n5) (b : Below W.heap.size W W') : AAs w W' A c l g2 g8 Ax cx lx AS cS R Ag cg Rg n2 n3 n5 :=
  ⟨Kd.R_below h.hx b, Kd.N_below h.hn b, Kd.S_mono (Kd.S_below h.hs b) (fun _ hk => ⟨hk.1, Nat.lt_of_lt_of_le hk.2 b.size⟩), blk_below h.bx b, blk_below h.b8 b, below_step h.hb b, h.n38, h.n85, h.n02, h.n23, h.n0⟩
structure AAt (w W : World) (A : Option Addr) (c : Nat) (l : List Int) (g2 : Nat) (AS : Option Addr) (cS : Nat) (R : List (List Int)) (Ag : Option Addr) (cg : Nat) (Rg : List (List Int)) (n2 n3 n5 : Nat) : Prop where
  hn : Kd.N (Kd.slice 3 (Kd.int .i64)) 22 W n2 (fun k => n2 ≤ k ∧ k < n3) (.slice AS R.length cS) R
  hs : Kd.S (Kd.slice 3 (Kd.int .i64)) 22 W w.heap.size (fun k => n5 ≤ k) (.slice Ag Rg.length cg) Rg
  bx : W.heap[g2]? = some (.cells #[.slice A l.length c] 24 (0, 0))
  hb : Below w.heap.size w W
  n35 : n3 ≤ n5
  n02 : g2 < n2
  n23 : n2 ≤ n3
  n0 : w.heap.size = g2
theorem AAt.below {w W W' : World} {A : Option Addr} {c : Nat} {l : List Int} {g2 : Nat} {AS : Option Addr} {cS : Nat} {R : List (List Int)} {Ag : Option Addr} {cg : Nat} {Rg : List (List Int)} {n2 n3 n5 : Nat}
    (h : AAt w W A c l g2 AS cS R Ag cg Rg n2 n3 n5) (b : Below W.heap.size W W') : AAt w W' A c l g2 AS cS R Ag cg Rg n2 n3 n5 :=
  ⟨Kd.N_below h.hn b, Kd.S_below h.hs b, blk_below h.bx b, below_step h.hb b, h.n35, h.n02, h.n23, h.n0⟩
theorem AAs.marked {w W W' : World} {A : Option Addr} {c : Nat} {l : List Int} {g2 g8 : Nat} {Ax : Option Addr} {cx : Nat} {lx : List Int} {AS : Option Addr} {cS : Nat} {R : List (List Int)} {Ag : Option Addr} {cg : Nat} {Rg : List (List Int)} {n2 n3 n5 : Nat}
    (h : AAs w W A c l g2 g8 Ax cx lx AS cS R Ag cg Rg n2 n3 n5) (hk : Kept W W' (fun k => n3 ≤ k ∧ k < g8)) (hB : Below w.heap.size w W') : AAt w W' A c l g2 AS cS R Ag cg Rg n2 n3 n5 := by
  have h1 := h.n38
  have h2 := h.n85
  have h3 := h.n02
  have h4 := h.n23
  have h5 := h.n0
  exact ⟨Kd.N_kept h.hn hk (fun k h1 h2 => by omega), Kd.S_lower (Kd.S_mono (Kd.S_kept h.hs hk (fun k h1 h2 => by omega)) (fun _ h => h.1)) (by omega), blk_kept h.bx hk (by omega), hB, by omega, h3, h4, h5⟩
theorem AAt.marked {w W W' : World} {A : Option Addr} {c : Nat} {l : List Int} {g2 : Nat} {AS : Option Addr} {cS : Nat} {R : List (List Int)} {Ag : Option Addr} {cg : Nat} {Rg Rm : List (List Int)} {n2 n3 n5 : Nat}
    (h : AAt w W A c l g2 AS cS R Ag cg Rg n2 n3 n5) (hl : Rm.length = Rg.length) (hS : Kd.S (Kd.slice 3 (Kd.int .i64)) 22 W' w.heap.size (fun k => n5 ≤ k) (.slice Ag Rg.length cg) Rm) (hk : Kept W W' (fun k => n5 ≤ k)) (hB : Below w.heap.size w W') : AAt w W' A c l g2 AS cS R Ag cg Rm n2 n3 n5 := by
  have h2 := h.n35
  have h3 := h.n02
  have h4 := h.n23
  exact ⟨Kd.N_kept h.hn hk (fun k h1 h2 => by omega), by rw [hl]; exact hS, blk_kept h.bx hk (by omega), hB, h.n35, h.n02, h.n23, h.n0⟩
theorem laws_markIntSS.go_length (k : Nat) : ∀ (l : List (List Int)) (a : Int) (r : Int × List (List Int)), laws_markIntSS.go k l a = some r → r.2.length = l.length
  | [], a, r, h => by simp only [laws_markIntSS.go, Option.some.injEq] at h; subst h; rfl
  | x :: l, a, r, h => by
    simp only [laws_markIntSS.go] at h
    obtain ⟨p, _, h⟩ := Option.bind_eq_some_iff.mp h
    obtain ⟨q, hq, h⟩ := Option.bind_eq_some_iff.mp h
    obtain rfl := Option.some.inj h
    simp only [List.length_cons, laws_markIntSS.go_length k l _ q hq]
set_option maxRecDepth 100000 in
set_option maxHeartbeats 4000000 in
theorem laws_FnExactAllArrays.good (k : Nat) (A : Option Addr) (c : Nat) (l : List Int) (a1 : Int) (w : World) (hr : Kd.C (Kd.int .i64) w A l.length l) (hc : l.length ≤ c) (z kk m : Int) (R Rm : List (List Int)) (lm : List Int) (b : Bool)
    (h1 : laws_szPoset.f l 1048576 = some z) (hz : ¬ z < 0) (h2 : laws_toPoset.f k l = some l) (h3 : spec_AllArrays.f k l a1 = some (R, b)) (h4 : impl_AllArrays.f k l a1 = some (R, b)) (h5 : laws_eqIntSS.f k R R = some true) (h6 : laws_eqPoset.f k l l = some true)
    (h7 : laws_markPoset.f k l 1 = some (kk, lm)) (hk : ¬ kk < 0) (h8 : laws_markIntSS.f k R 1 = some (m, Rm)) (h9 : laws_heldIntSS.f k Rm 1 = some m) (hm : ¬ m < 0) :
    Calls Try.prog 3 #[.agg #[.slice A l.length c], .int .i64 a1] w fun e w' => e = .returned (.bool true) ∧ Below w.heap.size w w' := by
  have hu24 := Try.underlying24
  have hu29 := Try.underlying29
  have HR := Aside0.mk hr
  have HC := Aside0.mk hc
  have H1 := Aside0.mk h1
  have H2 := Aside0.mk h2
  have H3 := Aside0.mk h3
  have H4 := Aside0.mk h4
  have H5 := Aside0.mk h5
  have H6 := Aside0.mk h6
  have H7 := Aside0.mk h7
  have H8 := Aside0.mk h8
  have H9 := Aside0.mk h9
  have hzb : decide (z < 0) = false := decide_eq_false hz
  have hkb : decide (kk < 0) = false := decide_eq_false hk
  have hmb : decide (m < 0) = false := decide_eq_false hm
  clear hr hc h1 h2 h3 h4 h5 h6 h7 h8 h9 hz hk hm
  go_enter Try.func3, Try.ntmps3
  go_wp2_with fail
  have BX := Aside0.mk (box_new_ w (.cells #[.slice A l.length c] 24))
  have HB := Aside0.mk (below_alloc (Below.refl w.heap.size w) (.cells #[.slice A l.length c] 24))
  generalize hg2 : w.heap.size = g2 at BX
  generalize w.alloc (.cells #[.slice A l.length c] 24) = W0 at BX HB ⊢
  have HG2 := Aside0.mk hg2
  clear hg2
  refine (laws_szPoset.calls A c l 1048576 z _ (Kd.C_below HR.out HB.out) HC.out H1.out).mono ?_
  rintro e W1 ⟨rfl, hb⟩
  replace HB := Aside0.mk (below_step HB.out hb)
  replace BX := Aside0.mk (blk_below BX.out hb)
  clear hb
  have hz1 : W1.cell? ⟨g2, 0, none⟩ = some (.slice A l.length c) := (blk_cell BX.out 0).trans rfl
  go_wp2_with fail
  refine (laws_toPoset.calls k A c l l _ (Kd.C_below HR.out HB.out) HC.out H2.out).mono ?_
  rintro e W2 ⟨va, rfl, hra, hb⟩
  have HB1 := Aside0.mk (below_step HB.out hb)
  have BX1 := Aside0.mk (blk_below BX.out hb)
  clear hb hz1 HB BX
  obtain ⟨Aa, ca, rfl⟩ := Kd.R_slice hra
  have HRA := Aside0.mk hra
  clear hra
  go_wp2_with fail
  refine (spec_AllArrays.calls k Aa ca l a1 R b _ (Kd.R_reads' HRA.out).2.2 (Kd.R_reads' HRA.out).2.1 H3.out).mono ?_
  rintro e W3 ⟨vS, rfl, hN, hb⟩
  have HB := Aside0.mk (below_step HB1.out hb)
  have BX := Aside0.mk (blk_below BX1.out hb)
  have HN := Aside0.mk (iv_N hN)
  have HN23 := Aside0.mk hb.size
  have HN02 := Aside0.mk (blk_lt BX1.out)
  clear hN hb HRA HB1 BX1
  have hz1 : W3.cell? ⟨g2, 0, none⟩ = some (.slice A l.length c) := (blk_cell BX.out 0).trans rfl
  obtain ⟨AS, cS, rfl⟩ := Kd.N_slice HN.out
  go_wp2_with fail
  refine (laws_toPoset.calls k A c l l _ (Kd.C_below HR.out HB.out) HC.out H2.out).mono ?_
  rintro e W4 ⟨vx, rfl, hrx, hb⟩
  have HX := Aside0.mk (iv_R hrx)
  replace HN := Aside0.mk (Kd.N_below HN.out hb)
  replace BX := Aside0.mk (blk_below BX.out hb)
  have HS34 := Aside0.mk hb.size
  replace HB := Aside0.mk (below_step HB.out hb)
  clear hb hrx hz1
  obtain ⟨Ax, cx, rfl⟩ := Kd.R_slice HX.out
  go_wp2_with fail
  have B8 := Aside0.mk (box_new_ W4 (.cells #[.slice Ax l.length cx] 29))
  have hb := below_alloc (Below.refl W4.heap.size W4) (.cells #[.slice Ax l.length cx] 29)
  replace HX := Aside0.mk (Kd.R_below HX.out hb)
  replace HN := Aside0.mk (Kd.N_below HN.out hb)
  replace BX := Aside0.mk (blk_below BX.out hb)
  replace HB := Aside0.mk (below_step HB.out hb)
  generalize hg8 : W4.heap.size = g8 at B8 HX HS34
  generalize W4.alloc (.cells #[.slice Ax l.length cx] 29) = W5 at B8 HX HN BX HB ⊢
  have HG8 := Aside0.mk hg8
  have HG85 := Aside0.mk (blk_lt B8.out)
  clear hg8 hb
  have hz8 : W5.cell? ⟨g8, 0, none⟩ = some (.slice Ax l.length cx) := (blk_cell B8.out 0).trans rfl
  go_wp2_with fail
  refine (impl_AllArrays.calls k Ax cx l a1 R b _ (Kd.R_reads' HX.out).2.2 (Kd.R_reads' HX.out).2.1 H4.out).mono ?_
  rintro e W6 ⟨vg, rfl, hS, hb⟩
  obtain ⟨Ag, cg, rfl⟩ := Kd.S_slice hS
  have ST := Aside0.mk (show AAs w W6 A c l g2 g8 Ax cx l AS cS R Ag cg R W2.heap.size W3.heap.size W5.heap.size from ⟨Kd.R_below HX.out hb, Kd.N_below HN.out hb, iv_S hS, blk_below BX.out hb, blk_below B8.out hb, below_step HB.out hb, HS34.out, HG85.out, HN02.out, HN23.out, HG2.out⟩)
  clear hb hS hz8 HX HN BX B8 HB HS34 HG85
  go_wp2_with fail
  refine (laws_eqIntSS.calls k Ag cg R AS cS R true _ (Kd.S_reads' ST.out.hs).2.2 (Kd.S_reads' ST.out.hs).2.1 (Kd.N_reads' ST.out.hn).2.2 (Kd.N_reads' ST.out.hn).2.1 H5.out).mono ?_
  rintro e W7 ⟨rfl, nd, rfl⟩
  replace ST := Aside0.mk (ST.out.below (pw_below_drewN (Below.refl _ _) nd))
  generalize W6.drewN nd = W7 at ST ⊢
  go_wp2_with fail
  have hz8 : W7.drew.cell? ⟨g8, 0, none⟩ = some (.slice Ax l.length cx) := (blk_cell (ST.out.below (below_drew (Below.refl _ _))).b8 0).trans rfl
  have hz2 : W7.drew.cell? ⟨g2, 0, none⟩ = some (.slice A l.length c) := (blk_cell (ST.out.below (below_drew (Below.refl _ _))).bx 0).trans rfl
  replace ST := Aside0.mk (ST.out.below (below_drew (Below.refl _ _)))
  refine start_ (n := 5) (S := fun w' => w'.cell? ⟨g8, 0, none⟩ = some (.slice Ax l.length cx) ∧ w'.cell? ⟨g2, 0, none⟩ = some (.slice A l.length c)) (ds := []) #[false, false, false, false, false] (by kernel_rfl) rfl rfl ⟨hz8, hz2⟩ (fun hHeld => ?_)
  generalize W7.drew = W8 at ST hHeld hz8 hz2 ⊢
  refine take_ (i := 0) (N := some 45) (v := ?_) (a' := ?_) #[true, false, false, false, false] rfl rfl (by kernel_rfl) (fun _ _ _ h => h) (Or.inl ⟨by rfl, ?_⟩) hHeld ?_ ?_
  rotate_left
  · rintro w' ⟨s0, s1⟩
    go_simp
    with_reducible rfl
  rotate_left
  · simp only [Act.put, List.setIfInBounds_toArray, List.set_cons_zero, List.set_cons_succ]
    rfl
  refine take_ (i := 1) (N := some 46) (v := ?_) (a' := ?_) #[true, true, false, false, false] rfl rfl (by kernel_rfl) (fun _ _ _ h => h) (Or.inl ⟨by rfl, ?_⟩) hHeld ?_ ?_
  rotate_left
  · rintro w' ⟨s0, s1⟩
    go_simp
    with_reducible rfl
  rotate_left
  · simp only [Act.put, List.setIfInBounds_toArray, List.set_cons_zero, List.set_cons_succ]
    rfl
  refine one_ (i := 2) (N := some 47) #[true, true, true, false, false] rfl rfl (by kernel_rfl) (by decide) (fun K hK => ?_)
  refine goes_ Try.func9 (by kernel_rfl) rfl #[.agg #[.slice A l.length c]] (by rfl) rfl rfl (by (try simp only [List.map_toArray, List.map_cons, List.map_nil]); rfl) ?_
  refine (laws_toPoset.calls k A c l l _ (Kd.C_below HR.out ST.out.hb) HC.out H2.out).mono ?_
  rintro e W9 ⟨vq, rfl, hrq, hb⟩
  obtain ⟨Aq, cq, rfl⟩ := Kd.R_slice hrq
  replace ST := Aside0.mk (ST.out.below hb)
  have HQ := Aside0.mk hrq
  clear hb hrq hz8 hz2
  refine ⟨_, rfl, hK.out _ _ ⟨(blk_cell ST.out.b8 0).trans rfl, (blk_cell ST.out.bx 0).trans rfl⟩ (fun hHeld => ?_)⟩
  clear hK K
  refine one_ (i := 3) (N := some 48) #[true, true, true, true, false] rfl rfl (by kernel_rfl) (by decide) (fun K hK => ?_)
  refine goes_ Try.func12 (by kernel_rfl) rfl #[.agg #[.slice Ax l.length cx], .agg #[.slice Aq l.length cq]] (by rfl) rfl rfl (by (try simp only [List.map_toArray, List.map_cons, List.map_nil]); rfl) ?_
  refine (laws_eqPoset.calls k Ax cx l Aq cq l true _ (Kd.R_reads' ST.out.hx).2.2 (Kd.R_reads' ST.out.hx).2.1 (Kd.R_reads' HQ.out).2.2 (Kd.R_reads' HQ.out).2.1 H6.out).mono ?_
  rintro e W10 ⟨rfl, hb⟩
  replace ST := Aside0.mk (ST.out.below hb)
  clear hb HQ
  refine ⟨_, rfl, hK.out _ _ ⟨(blk_cell ST.out.b8 0).trans rfl, (blk_cell ST.out.bx 0).trans rfl⟩ (fun hHeld => ?_)⟩
  clear hK K
  refine pure_ (i := 4) (N := some 49) (v := ?_) (a' := ?_) #[true, true, true, true, true] rfl rfl (by kernel_rfl) (fun _ _ _ h => h) (Or.inl ⟨by rfl, ?_⟩) ?_ ?_
  rotate_left
  · intro w'
    go_simp
    with_reducible rfl
  rotate_left
  · simp only [Act.put, List.setIfInBounds_toArray, List.set_cons_zero, List.set_cons_succ]
    rfl
  refine done_ (by kernel_rfl) ?_
  have hz8 : W10.cell? ⟨g8, 0, none⟩ = some (.slice Ax l.length cx) := (blk_cell ST.out.b8 0).trans rfl
  go_wp2_with fail
  refine (laws_markPoset.calls k (fun k_ => W3.heap.size ≤ k_ ∧ k_ < g8) _ l 1 kk lm w _ ST.out.hb (Kd.R_lower ST.out.hx (by have := ST.out; have := this.n02; have := ST.out.n23; have := ST.out.n0; omega)) H7.out).mono ?_
  rintro e W11 ⟨rfl, _, hB, hkp⟩
  have SM := Aside0.mk (ST.out.marked hkp hB)
  clear hB hkp ST hz8
  go_wp2_with fail
  refine (laws_eqIntSS.calls k Ag cg R AS cS R true _ (Kd.S_reads' SM.out.hs).2.2 (Kd.S_reads' SM.out.hs).2.1 (Kd.N_reads' SM.out.hn).2.2 (Kd.N_reads' SM.out.hn).2.1 H5.out).mono ?_
  rintro e W12 ⟨rfl, nd, rfl⟩
  replace SM := Aside0.mk (SM.out.below (pw_below_drewN (Below.refl _ _) nd))
  generalize W11.drewN nd = W12 at SM ⊢
  go_wp2_with fail
  refine (laws_markIntSS.calls k _ Ag cg R 1 m Rm w _ SM.out.hb SM.out.hs H8.out).mono ?_
  rintro e W13 ⟨rfl, hS, hB, hkp⟩
  have HLn : Aside0 (Rm.length = R.length) := ⟨by have := H8.out; unfold laws_markIntSS.f at this; split at this; exact laws_markIntSS.go_length k _ _ _ this; cases this⟩
  replace SM := Aside0.mk (SM.out.marked HLn.out hS hkp hB)
  clear hS hB hkp
  go_wp2_with fail
  have C9 := laws_heldIntSS.calls k Ag cg Rm 1 m W13 (Kd.S_reads' SM.out.hs).2.2 (Kd.S_reads' SM.out.hs).2.1 H9.out
  rw [HLn.out] at C9
  refine C9.mono ?_
  clear C9
  rintro e W14 ⟨rfl, nd, rfl⟩
  replace SM := Aside0.mk (SM.out.below (pw_below_drewN (Below.refl _ _) nd))
  generalize W13.drewN nd = W14 at SM ⊢
  have hz2 : W14.cell? ⟨g2, 0, none⟩ = some (.slice A l.length c) := (blk_cell SM.out.bx 0).trans rfl
  go_wp2_with fail
  refine (laws_toPoset.calls k A c l l _ (Kd.C_below HR.out SM.out.hb) HC.out H2.out).mono ?_
  rintro e W15 ⟨vy, rfl, hry, hb⟩
  obtain ⟨Ay, cy, rfl⟩ := Kd.R_slice hry
  replace SM := Aside0.mk (SM.out.below hb)
  have HY := Aside0.mk hry
  clear hb hry hz2
  go_wp2_with fail
  refine (impl_AllArrays.calls k Ay cy l a1 R b _ (Kd.R_reads' HY.out).2.2 (Kd.R_reads' HY.out).2.1 H4.out).mono ?_
  rintro e W16 ⟨vh, rfl, hS, hb⟩
  obtain ⟨Ah, ch, rfl⟩ := Kd.S_slice hS
  have HH := Aside0.mk hS
  replace SM := Aside0.mk (SM.out.below hb)
  clear hb hS HY
  go_wp2_with fail
  refine (laws_eqIntSS.calls k Ah ch R AS cS R true _ (Kd.S_reads' HH.out).2.2 (Kd.S_reads' HH.out).2.1 (Kd.N_reads' SM.out.hn).2.2 (Kd.N_reads' SM.out.hn).2.1 H5.out).mono ?_
  rintro e W17 ⟨rfl, nd, rfl⟩
  replace SM := Aside0.mk (SM.out.below (pw_below_drewN (Below.refl _ _) nd))
  generalize W16.drewN nd = W17 at SM ⊢
  clear HH
  go_wp2_with fail
  have C9 := laws_heldIntSS.calls k Ag cg Rm 1 m W17 (Kd.S_reads' SM.out.hs).2.2 (Kd.S_reads' SM.out.hs).2.1 H9.out
  rw [HLn.out] at C9
  refine C9.mono ?_
  clear C9
  rintro e W18 ⟨rfl, nd, rfl⟩
  replace SM := Aside0.mk (SM.out.below (pw_below_drewN (Below.refl _ _) nd))
  generalize W17.drewN nd = W18 at SM ⊢
  go_wp2_with fail
  go_ret
  exact ⟨rfl, SM.out.hb⟩
set_option maxRecDepth 100000 in
set_option maxHeartbeats 4000000 in
theorem laws_FnExactAllArrays.small (A : Option Addr) (c : Nat) (l : List Int) (a1 : Int) (w : World) (hr : Kd.C (Kd.int .i64) w A l.length l) (hc : l.length ≤ c) (z : Int)
    (h1 : laws_szPoset.f l 1048576 = some z) (hz : z < 0) :
    Calls Try.prog 3 #[.agg #[.slice A l.length c], .int .i64 a1] w fun e w' => e = .returned (.bool true) ∧ Below w.heap.size w w' := by
  have hu24 := Try.underlying24
  have HR := Aside0.mk hr
  have HC := Aside0.mk hc
  have H1 := Aside0.mk h1
  have hzb : decide (z < 0) = true := decide_eq_true hz
  clear hr hc h1 hz
  go_enter Try.func3, Try.ntmps3
  go_wp2_with fail
  have HB := Aside0.mk (below_alloc (Below.refl w.heap.size w) (.cells #[.slice A l.length c] 24))
  generalize w.alloc (.cells #[.slice A l.length c] 24) = W0 at HB ⊢
  refine (laws_szPoset.calls A c l 1048576 z _ (Kd.C_below HR.out HB.out) HC.out H1.out).mono ?_
  rintro e W1 ⟨rfl, hb⟩
  replace HB := Aside0.mk (below_step HB.out hb)
  clear hb
  go_wp2_with fail
  go_ret
  exact ⟨rfl, HB.out⟩
/-- What is left to show, over lists of numbers alone. -/
def laws_FnExactAllArrays.Good (l : List Int) (a1 : Int) : Prop := ∃ (k : Nat) (z kk m : Int) (R Rm : List (List Int)) (lm : List Int) (b : Bool), laws_szPoset.f l 1048576 = some z ∧ ¬ z < 0 ∧ laws_toPoset.f k l = some l ∧ spec_AllArrays.f k l a1 = some (R, b) ∧ impl_AllArrays.f k l a1 = some (R, b) ∧
  laws_eqIntSS.f k R R = some true ∧ laws_eqPoset.f k l l = some true ∧ laws_markPoset.f k l 1 = some (kk, lm) ∧ ¬ kk < 0 ∧ laws_markIntSS.f k R 1 = some (m, Rm) ∧ laws_heldIntSS.f k Rm 1 = some m ∧ ¬ m < 0
def laws_FnExactAllArrays.Pure : Prop := ∀ (l : List Int) (a1 : Int), l.length ≤ maxLen → (∀ n ∈ l, (Lit.int .i64 n).wf = true) → (Lit.int .i64 a1).wf = true → (∃ z, laws_szPoset.f l 1048576 = some z ∧ z < 0) ∨ laws_FnExactAllArrays.Good l a1
theorem laws_FnExactAllArrays.walk (P : laws_FnExactAllArrays.Pure) (a0 : Option Addr) (len0 cap0 : Nat) (z0 : List Int) (a1 : Int) (w : World)
    (w0 : (a0 = none ∧ len0 = 0 ∧ cap0 = 0 ∧ z0 = []) ∨ ∃ x, a0 = some x ∧ len0 ≤ cap0 ∧ cap0 ≤ maxLen ∧ z0.length = cap0 ∧ (∀ i, i < z0.length → w.cell? (x.add i) = some (.int .i64 (z0.getD i 0))) ∧ ∀ n ∈ z0, (Lit.int .i64 n).wf = true) (w1 : (Lit.int .i64 a1).wf = true) :
    Calls Try.prog 3 #[.agg #[.slice a0 len0 cap0], .int .i64 a1] w fun e w' => e = .returned (.bool true) ∧ Below w.heap.size w w' := by
  obtain ⟨l0, rfl, hr0, hm0, hw0, hc0⟩ := ReadsInt.ofRowC w0
  have hC := Kd.C_of_reads (d := (0 : Int)) (h1 := fun _ => rfl) hr0
  rcases P l0 a1 hm0 hw0 w1 with ⟨z, h1, hz⟩ | ⟨k, z, kk, m, R, Rm, lm, b, h1, hz, h2, h3, h4, h5, h6, h7, hk, h8, h9, hm⟩
  · exact laws_FnExactAllArrays.small _ _ l0 a1 w hC hc0 z h1 hz
  · exact laws_FnExactAllArrays.good k _ _ l0 a1 w hC hc0 z kk m R Rm lm b h1 hz h2 h3 h4 h5 h6 h7 hk h8 h9 hm
end Go.Proofs.Ytcajljndcddldaa.PDa
