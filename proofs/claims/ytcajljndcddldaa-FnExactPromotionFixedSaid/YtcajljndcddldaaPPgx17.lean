-- Written for this claim by wip/gprint.py, out of the translation and of hand-written parts.
import Derived.Test.YtcajljndcddldaaPPgx0
import Derived.Test.YtcajljndcddldaaPPgx12
import Derived.Test.YtcajljndcddldaaPPgx13
import Derived.Test.YtcajljndcddldaaPPgx16
namespace Go.Proofs.Ytcajljndcddldaa.PPg
open Go.RowKit Go.Proofs.YtcajljndcddldaaW.PrintWords Go.Proofs.YtcajljndcddldaaW.PrintLast Go.Proofs.YtcajljndcddldaaW.PrintMore
attribute [local go_sem] max2_int min2_int max_two min_two max_three min_three max_four min_four   -- for this text's walks alone
set_option linter.unusedVariables false
set_option linter.unusedSimpArgs false

/-! ### impl_few: by hand -/
theorem blk_new_ (w : World) (o : Obj) : (w.alloc o).heap[w.heap.size]? = some o := by unfold World.alloc; exact Array.getElem?_push_size
theorem blk_alloc_ {w : World} {g : Nat} {o : Obj} (h : w.heap[g]? = some o) (x : Obj) : (w.alloc x).heap[g]? = some o := (below_alloc (Below.refl w.heap.size w) x).block g (blk_lt h) |>.trans h
theorem run_store_fn_ {P : Program} {w : World} (a : Addr) (m : Mode) (fn : Fn) (first captured : Array Value) : (store a (.func fn first captured) m).run P w = stored P w a (.func fn first captured) m := run_store P w a _ m rfl
attribute [local go_sem] run_store_fn_
theorem alloc_size_ (w : World) (o : Obj) : (w.alloc o).heap.size = w.heap.size + 1 := by unfold World.alloc; exact Array.size_push _
theorem few_start {w w3 w4 w5 : World} {gp : Nat} {A : Option Addr} {c : Nat} {l : List Int} {vo vw : Value} (hgp : w3.heap[gp]? = some (.cells #[.slice A l.length c] 29 (0, 0)))
    (hS : Kd.S (Kd.slice 3 (Kd.int .i64)) 22 w4 w.heap.size (fun _ => True) vo []) (hg4 : w3.grownBy w4 none) (hR : Kd.R (Kd.int .i64) 3 w5 w.heap.size (fun _ => True) vw []) (hg5 : w4.grownBy w5 none) (hn5 : ∃ b, vw.ownBlock = some b ∧ w4.heap.size ≤ b) (hB5 : Below w.heap.size w w5) :
    FewSt w (((w5.alloc (.cells #[vo] 26)).alloc (.cells #[vw] 22)).alloc (.cells #[(.func (.func 112) #[] #[.pointer (some ⟨gp, 0, none⟩), .pointer (some ⟨w5.heap.size, 0, none⟩), .pointer (some ⟨w5.heap.size + 1, 0, none⟩), .pointer (some ⟨w5.heap.size + 1 + 1, 0, none⟩)])] 92)) (fun _ => True) gp w5.heap.size (w5.heap.size + 1) (w5.heap.size + 1 + 1) A c l vo vw [] [] := by
  have s1 : (w5.alloc (.cells #[vo] 26)).heap.size = w5.heap.size + 1 := alloc_size_ _ _
  have s2 : ((w5.alloc (.cells #[vo] 26)).alloc (.cells #[vw] 22)).heap.size = w5.heap.size + 1 + 1 := by rw [alloc_size_, alloc_size_]
  have b1 := blk_new_ w5 (.cells #[vo] 26)
  have b2 := blk_new_ (w5.alloc (.cells #[vo] 26)) (.cells #[vw] 22)
  have b3 := blk_new_ ((w5.alloc (.cells #[vo] 26)).alloc (.cells #[vw] 22)) (.cells #[(.func (.func 112) #[] #[.pointer (some ⟨gp, 0, none⟩), .pointer (some ⟨w5.heap.size, 0, none⟩), .pointer (some ⟨w5.heap.size + 1, 0, none⟩), .pointer (some ⟨w5.heap.size + 1 + 1, 0, none⟩)])] 92)
  rw [s1] at b2
  rw [s2] at b3
  have p5 := blk_grown (blk_grown hgp hg4 (by simp)) hg5 (by simp)
  have p8 := blk_alloc_ (blk_alloc_ (blk_alloc_ p5 (.cells #[vo] 26)) (.cells #[vw] 22)) (.cells #[(.func (.func 112) #[] #[.pointer (some ⟨gp, 0, none⟩), .pointer (some ⟨w5.heap.size, 0, none⟩), .pointer (some ⟨w5.heap.size + 1, 0, none⟩), .pointer (some ⟨w5.heap.size + 1 + 1, 0, none⟩)])] 92)
  have hsz := hB5.size
  refine ⟨p8, blk_alloc_ (blk_alloc_ b1 _) _, blk_alloc_ b2 _, b3, ?_, Kd.R_alloc (Kd.R_alloc (Kd.R_alloc hR _) _) _, by omega, by omega, ((hB5.alloc hsz _).alloc (by rw [s1]; omega) _).alloc (by rw [s2]; omega) _, fun _ _ => trivial⟩
  have h5 : Kd.S (Kd.slice 3 (Kd.int .i64)) 22 w5 w.heap.size (fun k => k < w5.heap.size ∧ some k ≠ vw.ownBlock) vo [] := Kd.S_mono (Kd.S_grown (Kd.S_bound hS) hg5 (by simp)) (fun k hk => ⟨Nat.lt_of_lt_of_le hk.2.2.1 hg5.size, fun e => by
    obtain ⟨b, hb, hle⟩ := hn5
    rw [hb] at e
    injection e with e
    have := hk.2.2.1
    omega⟩)
  exact Kd.S_mono (Kd.S_alloc (Kd.S_alloc (Kd.S_alloc h5 _) _) _) (fun k hk => ⟨trivial, by have := hk.1; omega, hk.2⟩)
def impl_few.f (k : Nat) (l : List Int) : Option (List (List Int) × Bool) := (impl_IsPoset.f k l).bind fun b => if b = true then ((impl_Poset_ways.f k l).bind fun ws => if 0 < ws.length then (if 500 < rd ws 0 then some ([], false) else (impl_few_1.f k l 0 [] []).bind fun outs => some (outs, true)) else none) else some ([], false)
set_option maxRecDepth 100000 in
set_option maxHeartbeats 4000000 in
theorem impl_few.calls (k : Nat) (A0_0 : Option Addr) (c0_0 : Nat) (l0_0 : List Int) (r1 : List (List Int)) (r2 : Bool) (w : World) (hr0_0 : Kd.C (Kd.int .i64) w A0_0 l0_0.length l0_0) (hc0_0 : l0_0.length ≤ c0_0) (h : impl_few.f k l0_0 = some (r1, r2)) :
    Calls Try.prog 93 #[.agg #[.slice A0_0 l0_0.length c0_0]] w fun e w' => ∃ v0_ : Value, e = .returned (.tuple #[v0_, .bool r2]) ∧ Kd.S (Kd.slice 3 (Kd.int .i64)) 22 w' w.heap.size (fun _ => True) v0_ r1 ∧ Below w.heap.size w w' := by
  have hu29 := Try.underlying29
  unfold impl_few.f at h
  replace h := Option.bind_eq_some_iff.mp h
  obtain ⟨b, hb, h⟩ := h
  have HB_ := Aside0.mk hb
  have HR := Aside0.mk hr0_0
  have HC := Aside0.mk hc0_0
  clear hb hr0_0 hc0_0
  cases b with
  | false =>
    simp only [Bool.false_eq_true, if_false, Option.some.injEq, Prod.mk.injEq] at h
    obtain ⟨rfl, rfl⟩ := h
    go_enter Try.func93, Try.ntmps93
    go_wp2_with fail
    have BG := Aside0.mk (show (w.alloc (.cells #[.slice A0_0 l0_0.length c0_0] 29)).heap[w.heap.size]? = some (.cells #[.slice A0_0 l0_0.length c0_0] 29 (0, 0)) from blk_new_ _ _)
    have hB0 := Aside0.mk (below_alloc (Below.refl w.heap.size w) (.cells #[.slice A0_0 l0_0.length c0_0] 29))
    generalize w.alloc (.cells #[.slice A0_0 l0_0.length c0_0] 29) = w1 at BG hB0 ⊢
    refine (impl_IsPoset.calls k _ _ l0_0 _ _ (Kd.C_below HR.out hB0.out) HC.out HB_.out).mono ?_
    rintro e w2 ⟨rfl, hb2⟩
    have hB2 := Aside0.mk (below_step hB0.out hb2)
    clear BG hb2 hB0
    go_wp2_with fail
    go_ret2
    exact ⟨_, rfl, Kd.S_nil _ _ _ _ _, hB2.out⟩
  | true =>
    rw [if_pos rfl] at h
    replace h := Option.bind_eq_some_iff.mp h
    obtain ⟨ws, hws, h⟩ := h
    have HW_ := Aside0.mk hws
    split at h
    case isFalse => cases h
    rename_i hl0
    clear hws
    go_enter Try.func93, Try.ntmps93
    go_wp2_with fail
    have BG := Aside0.mk (show (w.alloc (.cells #[.slice A0_0 l0_0.length c0_0] 29)).heap[w.heap.size]? = some (.cells #[.slice A0_0 l0_0.length c0_0] 29 (0, 0)) from blk_new_ _ _)
    have hB0 := Aside0.mk (below_alloc (Below.refl w.heap.size w) (.cells #[.slice A0_0 l0_0.length c0_0] 29))
    have HGE := Aside0.mk (Nat.le_refl w.heap.size)
    generalize hgp : w.heap.size = gp at BG
    rw [hgp] at HGE
    have HGP := Aside0.mk hgp
    generalize w.alloc (.cells #[.slice A0_0 l0_0.length c0_0] 29) = w1 at BG hB0 ⊢
    clear hgp
    refine (impl_IsPoset.calls k _ _ l0_0 _ _ (Kd.C_below HR.out hB0.out) HC.out HB_.out).mono ?_
    rintro e w2 ⟨rfl, hb2⟩
    have hB2 := Aside0.mk (below_step hB0.out hb2)
    have BG2 := Aside0.mk (blk_below BG.out hb2)
    have hz1 : w2.cell? ⟨gp, 0, none⟩ = some (.slice A0_0 l0_0.length c0_0) := (blk_cell BG2.out 0).trans rfl
    clear BG hb2 hB0
    go_wp2_with fail
    refine (impl_Poset_ways.calls k _ _ l0_0 _ _ (Kd.C_below HR.out hB2.out) HC.out HW_.out).mono ?_
    rintro e w3 ⟨vw, rfl, hRw, hb3⟩
    have hB3 := Aside0.mk (below_step hB2.out hb3)
    have BG3 := Aside0.mk (blk_below BG2.out hb3)
    clear BG2 hB2 hz1 hb3
    obtain ⟨Aw, cw, rfl⟩ := Kd.R_slice hRw
    have c0 : (0 : Int) < (ws.length : Int) := by omega
    obtain ⟨adw, ew, hxw⟩ := Kd.at_int (Kd.R_reads' hRw).2.2 0 (by omega) c0
    cases ew
    generalize rd ws 0 = z at h hxw
    rw [show adw.add (0 : Int).toNat = adw from by cases adw; rfl] at hxw
    clear hRw
    split at h
    · rename_i hz
      have hzb : decide (z > 500) = true := decide_eq_true hz
      simp only [Option.some.injEq, Prod.mk.injEq] at h
      obtain ⟨rfl, rfl⟩ := h
      clear hz
      go_wp2_with fail
      go_ret2
      exact ⟨_, rfl, Kd.S_nil _ _ _ _ _, hB3.out⟩
    · rename_i hz
      have hzb : decide (z > 500) = false := decide_eq_false hz
      replace h := Option.bind_eq_some_iff.mp h
      obtain ⟨outs, ho, h⟩ := h
      simp only [Option.some.injEq, Prod.mk.injEq] at h
      obtain ⟨rfl, rfl⟩ := h
      have HO := Aside0.mk ho
      clear hz ho
      go_wp2_with (first
        | ((with_reducible refine gate_dst (N := 17) rfl ?_); refine Kd.S_lit (w0 := w) (Kd.slice 3 (Kd.int .i64)) w.heap.size 22 ?hg (N := 17) ?hd (xs := ([] : List (List Int))) (inner := []) (ok := fun _ => True) (okp := fun _ => True) ?hr ?hp (fun _ hk => hk) trivial hB3.out hB3.out.size (by simp) ?_; (case hd => rfl); (case hg => rfl); (case hr => first | (go_simp; done) | (go_simp; rfl)); (case hp => exact (Reps.none _ _)); intro vo w4 hS4 hB4 hg4 hn4; obtain ⟨Ao, co, eo⟩ := Kd.S_slice hS4; rw [List.length_nil] at eo; subst eo; have HS4 := Aside0.mk hS4; have HB4 := Aside0.mk hB4; have HG4 := Aside0.mk hg4; clear hS4 hB4 hg4 hn4 hxw)
        | ((with_reducible refine gate_dst (N := 18) rfl ?_); refine Kd.R_lit (w0 := w) (Kd.int .i64) w.heap.size 3 ?hg (N := 18) ?hd (xs := ([] : List Int)) (inner := []) (ok := fun _ => True) (okp := fun _ => True) ?hr ?hp (fun _ hk => hk) trivial HB4.out HB4.out.size (by simp) ?_; (case hd => rfl); (case hg => rfl); (case hr => first | (go_simp; done) | (go_simp; rfl)); (case hp => exact (Reps.none _ _)); intro vw w5 hR5 hB5 hg5 hn5; obtain ⟨Av, cv, ev⟩ := Kd.R_slice hR5; rw [List.length_nil] at ev; subst ev; have HST0 := Aside0.mk (few_start BG3.out HS4.out HG4.out hR5 hg5 hn5 hB5); clear hR5 hB5 hg5 hn5 HS4 HB4 HG4 BG3))
      have HST := HST0
      clear HST0
      generalize (((w5.alloc (.cells #[.slice Ao 0 co] 26)).alloc (.cells #[.slice Av 0 cv] 22)).alloc (.cells #[(.func (.func 112) #[] #[.pointer (some ⟨gp, 0, none⟩), .pointer (some ⟨w5.heap.size, 0, none⟩), .pointer (some ⟨w5.heap.size + 1, 0, none⟩), .pointer (some ⟨w5.heap.size + 1 + 1, 0, none⟩)])] 92)) = W2 at HST ⊢
      generalize w5.heap.size + 1 + 1 = gf at HST ⊢
      generalize w5.heap.size + 1 = gw at HST ⊢
      generalize w5.heap.size = go at HST ⊢
      refine (impl_few_1.calls w gp go gw gf _ _ l0_0 HR.out HC.out k 0 W2 _ _ _ _ _ _ HST.out HO.out).mono ?_
      rintro e w6 ⟨rfl, vo2, vw2, hst6, hk6⟩
      have HST6 := Aside0.mk hst6
      clear hst6 hk6 HST
      have hz6 : w6.cell? ⟨go, 0, none⟩ = some vo2 := (blk_cell HST6.out.ho 0).trans rfl
      obtain ⟨Ao2, co2, eo2⟩ := Kd.S_slice HST6.out.so
      subst eo2
      go_wp2_with fail
      go_ret2
      exact ⟨_, rfl, Kd.S_mono HST6.out.so (fun _ _ => trivial), HST6.out.below⟩

/-! ### arrays of ten whole numbers: by hand -/
/-- A list of ten numbers as an array's value, and its cells. -/
def lineC (x : List Int) : Array Value := (x.map (Value.int .i64)).toArray
abbrev lineV (x : List Int) : Value := .agg (lineC x)
theorem lineC_size (x : List Int) : (lineC x).size = x.length := by simp [lineC]
theorem lineC_one (x : List Int) : (lineC x).all (·.oneCell') = true := by
  refine Array.all_eq_true_iff_forall_mem.2 (fun v hv => ?_)
  obtain ⟨n, _, rfl⟩ := List.mem_map.1 (by simpa [lineC] using hv)
  rfl
theorem lineI : (Try.prog.info? 102).map (·.size) = some 10 := by kernel_rfl
theorem lineZ : (Try.prog.info? 102).map (fun i => (i.zero, i.size)) = some (some (lineV (List.replicate 10 0)), 10) := by kernel_rfl
theorem line_new (w : World) (o : Obj) : (w.alloc o).heap[w.heap.size]? = some o := by unfold World.alloc; exact Array.getElem?_push_size
theorem line_old {w : World} {g : Nat} {o : Obj} (h : w.heap[g]? = some o) (x : Obj) : (w.alloc x).heap[g]? = some o := (below_alloc (Below.refl w.heap.size w) x).block g (blk_lt h) |>.trans h
theorem line_size (w : World) (o : Obj) : (w.alloc o).heap.size = w.heap.size + 1 := by unfold World.alloc; exact Array.size_push _
theorem setRow_same {w : World} {g t : Nat} {cs : Array Value} (h : w.heap[g]? = some (.cells cs t (0, 0))) (c2 : Array Value) : (w.setRow g c2).heap[g]? = some (.cells c2 t (0, 0)) := by
  simp [World.setRow, Array.getElem?_modify, h]
theorem setRow_far {w : World} {g g2 : Nat} (h : g2 ≠ g) (c2 : Array Value) : (w.setRow g c2).heap[g2]? = w.heap[g2]? := by
  simp [World.setRow, Array.getElem?_modify, Ne.symm h]
theorem setRow_below {w0 w : World} {g : Nat} {c2 : Array Value} (h : Below w0.heap.size w0 w) (hg : w0.heap.size ≤ g) : Below w0.heap.size w0 (w.setRow g c2) :=
  ⟨h.os, h.tape, h.output, by simpa using h.size, fun k hk => (setRow_far (by omega) c2).trans (h.block k hk)⟩
section
variable {P : Program} {ops : Array Oper} {rest : List Oper} {o : Oper} {a : Act} {w : World} {Q : Exit → Act → World → Prop}
/-- A whole array is read. -/
theorem line_load {x : Operand} (ty : TypeId) (hgd : o.guard = none) (ho : o.op = .load ty x) (g : Nat) (hx : a.eval x = .pointer (some ⟨g, 0, none⟩)) {t : TypeId} {l : List Int} (hg : w.heap[g]? = some (.cells (lineC l) t (0, 0))) {d : TypeDesc}
    (hu : P.underlying ty = some d) (hd : (match d with | .struct _ | .array _ _ => true | _ => false) = true) (hi : (P.info? ty).map (·.size) = some 10) (hl : l.length = 10) (h : wpList P ops Q rest (a.put o.dst (lineV l)) w) : wpList P ops Q (o :: rest) a w :=
  wpList_load_row hgd ty x ho g hx t (lineC l) (0, 0) d hg hu hd (by rw [hi, lineC_size, hl]) h
/-- .. and written. -/
theorem line_store {x y : Operand} (ty : TypeId) (hgd : o.guard = none) (hN : o.dst = none) (ho : o.op = .store ty x y) (g : Nat) (hx : a.eval x = .pointer (some ⟨g, 0, none⟩)) {t : TypeId} {l l2 : List Int} (hg : w.heap[g]? = some (.cells (lineC l) t (0, 0))) (hy : a.eval y = lineV l2)
    (hi : (P.info? ty).map (·.size) = some 10) (hl : l.length = 10) (hl2 : l2.length = 10) (h : wpList P ops Q rest a (w.setRow g (lineC l2))) : wpList P ops Q (o :: rest) a w := by
  refine wpList_plain hgd fun K hK => ?_
  have hr := run_storeVar_row (P := P) w g t ty (lineC l) (lineC l2) hg (by rw [hi, lineC_size, hl2]) (by rw [lineC_size, lineC_size, hl, hl2]) (lineC_one l2)
  unfold Oper.wp execOp
  simp only [ho, hx, hy, lineV, Instr.storeAt, Instr.sureAddr, Sem.run_bind, Sem.run_pure, Result.andThen_ok, hr]
  show K (a.put o.dst undef) _
  rw [hN]
  exact hK _ _ h
end
theorem line_src {w : World} {A : Option Addr} {l : List Int} (h : Kd.C (Kd.int .i64) w A l.length l) (hp : 0 < (l.map (Value.int .i64)).length) : ∃ ad, A = some ad ∧ ∀ j v, (l.map (Value.int .i64))[j]? = some v → w.cell? (ad.add j) = some v := by
  rw [List.length_map] at hp
  obtain ⟨ad, hA, _⟩ := Kd.at_int h 0 (by omega) (by omega)
  refine ⟨ad, hA, fun j v hj => ?_⟩
  rw [List.getElem?_map, Option.map_eq_some_iff] at hj
  obtain ⟨n, hn, rfl⟩ := hj
  have hjl := (List.getElem?_eq_some_iff.1 hn).1
  obtain ⟨ad', hA', hc⟩ := Kd.at_int h (j : Int) (by omega) (by omega)
  rw [hA] at hA'
  obtain rfl := Option.some.inj hA'
  rw [Int.toNat_natCast] at hc
  rw [hc]
  simp [rd, List.getD_eq_getElem?_getD, hn]
theorem line_splice {l r : List Int} (hl : l.length ≤ 10) (h : l ++ List.replicate (10 - l.length) 0 = r) : (splice (lineC (List.replicate 10 0)).toList 0 (l.map (Value.int .i64))).toArray = lineC r := by
  subst h
  simp only [splice, lineC, List.take_zero, List.nil_append, Nat.zero_add, List.length_map, List.toList_toArray, List.map_append, List.map_replicate, List.drop_replicate]
theorem below_weaken_ {B B' : Nat} {w w' : World} (h : Below B w w') (hb : B' ≤ B) : Below B' w w' := ⟨h.os, h.tape, h.output, h.size, fun k hk => h.block k (by omega)⟩
theorem lineC_get (x : List Int) (i : Int) (h0 : 0 ≤ i) (h1 : i < (x.length : Int)) : (lineC x)[i.toNat]? = some (.int .i64 (rd x i)) := by
  have h : i.toNat < x.length := by omega
  simp [lineC, rd, List.getD_eq_getElem?_getD, h]
theorem line_cell {w : World} {g : Nat} {t : TypeId} {x : List Int} (h : w.heap[g]? = some (.cells (lineC x) t (0, 0))) (i : Int) (h0 : 0 ≤ i) (h1 : i < (x.length : Int)) : w.cell? ⟨g, i.toNat, none⟩ = some (.int .i64 (rd x i)) := (blk_cell h _).trans (lineC_get x i h0 h1)
theorem line_set {w : World} {g : Nat} {t : TypeId} {x : List Int} (h : w.heap[g]? = some (.cells (lineC x) t (0, 0))) (i : Nat) (y : Int) : (w.setCell ⟨g, i, none⟩ (.int .i64 y)).heap[g]? = some (.cells (lineC (x.set i y)) t (0, 0)) := by
  have := blk_set h i (.int .i64 y)
  rw [this]
  simp [lineC, List.map_set]


/-! ### impl_lineOf: by hand -/
def impl_lineOf.f (l : List Int) : Option (List Int) := if l.length ≤ 10 then some (l ++ List.replicate (10 - l.length) 0) else none
set_option maxRecDepth 100000 in
set_option maxHeartbeats 4000000 in
theorem impl_lineOf.calls (A0 : Option Addr) (c0 : Nat) (l0 : List Int) (r : List Int) (w : World) (hr0 : Kd.C (Kd.int .i64) w A0 l0.length l0) (hc0 : l0.length ≤ c0) (h : impl_lineOf.f l0 = some r) :
    Calls Try.prog 122 #[.slice A0 l0.length c0] w fun e w' => e = .returned (lineV r) ∧ r.length = 10 ∧ Below w.heap.size w w' := by
  unfold impl_lineOf.f at h
  split at h
  case isFalse => cases h
  rename_i hl
  have HR := Aside0.mk hr0
  have HC := Aside0.mk hc0
  have HL := Aside0.mk hl
  have HH := Aside0.mk (Option.some.inj h)
  have HLR := Aside0.mk (show r.length = 10 by rw [← HH.out, List.length_append, List.length_replicate]; omega)
  clear hr0 hc0 hl h
  go_enter Try.func122, Try.ntmps122
  have hb1 := line_new w (.cells (lineC (List.replicate 10 0)) 102)
  have hb2 := line_new (w.alloc (.cells (lineC (List.replicate 10 0)) 102)) (.cells (lineC (List.replicate 10 0)) 102)
  have hs1 := line_size w (.cells (lineC (List.replicate 10 0)) 102)
  rw [hs1] at hb2
  have HB0 := Aside0.mk (below_alloc (below_alloc (Below.refl w.heap.size w) (.cells (lineC (List.replicate 10 0)) 102)) (.cells (lineC (List.replicate 10 0)) 102))
  have HB1 : Below (w.heap.size + 1) (w.alloc (.cells (lineC (List.replicate 10 0)) 102)) ((w.alloc (.cells (lineC (List.replicate 10 0)) 102)).alloc (.cells (lineC (List.replicate 10 0)) 102)) := (Below.refl _ _).alloc (by rw [hs1]; exact Nat.le_refl _) _
  have hC2 := Kd.C_below HR.out HB0.out
  replace HB1 := Aside0.mk HB1
  have HC2 := Aside0.mk hC2
  have HS1 := Aside0.mk hs1
  have HV1 := Aside0.mk hb1
  have HV2 := Aside0.mk hb2
  clear hb1 hb2 hs1 hC2
  replace HB1 : Aside0 (Below (w.heap.size + 1) (w.alloc (.cells #[.int .i64 0, .int .i64 0, .int .i64 0, .int .i64 0, .int .i64 0, .int .i64 0, .int .i64 0, .int .i64 0, .int .i64 0, .int .i64 0] 102)) ((w.alloc (.cells #[.int .i64 0, .int .i64 0, .int .i64 0, .int .i64 0, .int .i64 0, .int .i64 0, .int .i64 0, .int .i64 0, .int .i64 0, .int .i64 0] 102)).alloc (.cells #[.int .i64 0, .int .i64 0, .int .i64 0, .int .i64 0, .int .i64 0, .int .i64 0, .int .i64 0, .int .i64 0, .int .i64 0, .int .i64 0] 102))) := HB1
  replace HC2 : Aside0 (Kd.C (Kd.int .i64) ((w.alloc (.cells #[.int .i64 0, .int .i64 0, .int .i64 0, .int .i64 0, .int .i64 0, .int .i64 0, .int .i64 0, .int .i64 0, .int .i64 0, .int .i64 0] 102)).alloc (.cells #[.int .i64 0, .int .i64 0, .int .i64 0, .int .i64 0, .int .i64 0, .int .i64 0, .int .i64 0, .int .i64 0, .int .i64 0, .int .i64 0] 102)) A0 l0.length l0) := HC2
  go_wp2_with (first
    | ((with_reducible refine gate_builtin (b := .copy) (xs := #[.tmp 5, .tmp 6]) rfl ?_); (refine wpList_copy_splice rfl (.tmp 5) (.tmp 6) 22 22 rfl 3 Try.underlying22 (by kernel_rfl) _ _ _ _ _ _ rfl rfl (w.heap.size + 1) 0 [.int .i64 0, .int .i64 0, .int .i64 0, .int .i64 0, .int .i64 0, .int .i64 0, .int .i64 0, .int .i64 0, .int .i64 0, .int .i64 0] 102 HV2.out (l0.map (Value.int .i64)) (by rw [List.length_map]; exact (Nat.min_eq_left HL.out).symm) (fun hp => ⟨rfl, line_src HC2.out hp⟩) (by rw [List.length_map]; have := HL.out; simp; omega) (by intro v hv; obtain ⟨n, _, rfl⟩ := List.mem_map.1 hv; rfl) (w.heap.size + 1) (w.alloc (.cells #[.int .i64 0, .int .i64 0, .int .i64 0, .int .i64 0, .int .i64 0, .int .i64 0, .int .i64 0, .int .i64 0, .int .i64 0, .int .i64 0] 102)) HB1.out (Nat.le_refl _) ?_); intro w1 h1 hb1; have HN := Aside0.mk ((show w1.heap[w.heap.size + 1]? = some (.cells (splice (lineC (List.replicate 10 0)).toList 0 (l0.map (Value.int .i64))).toArray 102 (0, 0)) from h1.out).trans (by rw [line_splice HL.out HH.out])); have HZ := Aside0.mk ((hb1.block w.heap.size (Nat.lt_succ_self _)).trans HV1.out); have HB2 := Aside0.mk ((below_alloc (Below.refl w.heap.size w) (.cells (lineC (List.replicate 10 0)) 102)).trans (below_weaken_ hb1 (Nat.le_succ _))); clear h1 hb1 HB0 HB1 HC2 HV1 HV2)
    | ((with_reducible refine gate_ (.load 102 (.tmp 3)) rfl ?_); refine line_load 102 rfl rfl (w.heap.size + 1) rfl HN.out Try.underlying102 rfl lineI HLR.out ?_)
    | ((with_reducible refine gate_ (.store 102 (.tmp 2) (.tmp 8)) rfl ?_); refine line_store 102 rfl rfl rfl w.heap.size rfl HZ.out rfl lineI (List.length_replicate ..) HLR.out ?_))
  (try simp only [Exit.inBlock, Exit.then])
  refine bodyPost_ret (results_cell_row rfl _ _ w.heap.size _ (lineC r) (0, 0) _ rfl (setRow_same HZ.out _) Try.underlying102 rfl (by rw [lineI, lineC_size, HLR.out])) rfl ?_
  exact ⟨rfl, HLR.out, setRow_below HB2.out (Nat.le_refl _)⟩


end Go.Proofs.Ytcajljndcddldaa.PPg
