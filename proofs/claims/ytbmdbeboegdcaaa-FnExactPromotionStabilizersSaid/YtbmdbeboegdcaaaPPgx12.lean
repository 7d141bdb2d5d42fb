-- Written for this claim by wip/gprint.py, out of the translation and of hand-written parts.
import Derived.Test.YtbmdbeboegdcaaaPPgx0
import Derived.Test.YtbmdbeboegdcaaaPPgx7
import Derived.Test.YtbmdbeboegdcaaaPPgx11
namespace Go.Proofs.Ytbmdbeboegdcaaa.PPg
open Go.RowKit Go.Proofs.YtbmdbeboegdcaaaW.PrintWords Go.Proofs.YtbmdbeboegdcaaaW.PrintLast Go.Proofs.YtbmdbeboegdcaaaW.PrintMore
attribute [local go_sem] max2_int min2_int max_two min_two max_three min_three max_four min_four   -- for this text's walks alone
set_option linter.unusedVariables false
set_option linter.unusedSimpArgs false

/-! ### lines in rows, and sets of lines: by hand -/
def Kd.line : Kd (List Int) where
  sz := 10
  E := []
  K := fun _ x cs => cs = x.map (Value.int .i64) ∧ x.length = 10
  M := fun _ _ _ x cs => cs = x.map (Value.int .i64) ∧ x.length = 10
  K_len := fun h => by rw [h.1, List.length_map, h.2]
  K_one := fun h u hu => by
    rw [h.1] at hu
    obtain ⟨n, _, rfl⟩ := List.mem_map.1 hu
    rfl
  K_below := fun _ h => h
  K_of_M := fun h => h
  M_mono := fun _ h => h
  M_bound := fun h => h
  M_move := fun _ h => h
  M_lower := fun _ h => h
def lineOk (x : List Int) : Bool := x.length == 10 && x.all fun n => (Lit.int .i64 n).wf
theorem lineOk_len {x : List Int} (h : lineOk x = true) : x.length = 10 := by
  simp only [lineOk, Bool.and_eq_true, beq_iff_eq] at h
  exact h.1
theorem lineC_inj {x y : List Int} (h : (Value.agg (lineC x)) = .agg (lineC y)) : x = y := by
  have h1 : lineC x = lineC y := by injection h
  have h2 : x.map (Value.int .i64) = y.map (Value.int .i64) := by
    have := congrArg Array.toList h1
    simpa [lineC] using this
  exact (List.map_inj_right (fun a b hab => by injection hab)).1 h2
theorem list10 {α : Type} {l : List α} (h : l.length = 10) : ∃ a b c d e f g i j k, l = [a, b, c, d, e, f, g, i, j, k] := by
  match l, h with
  | [a, b, c, d, e, f, g, i, j, k], _ => exact ⟨a, b, c, d, e, f, g, i, j, k, rfl⟩
theorem lineArr : WideMaps.ArrKey Try.prog 51 3 10 := ⟨Try.underlying51, by kernel_rfl, by kernel_rfl, by kernel_rfl⟩
theorem lineTypes : ∃ m, Try.prog.types.size = m + 1 := ⟨Try.prog.types.size - 1, by have : 0 < Try.prog.types.size := of_decide_eq_true (by kernel_rfl)
                                                                                     omega⟩
theorem lineKeyed : Maps.Keyed Try.prog 51 := Maps.Keyed.of_law lineArr.law
set_option maxHeartbeats 1000000 in
theorem line_keyOf {x : List Int} (h : lineOk x = true) : ∃ kl, keyOf Try.prog 51 (.agg (lineC x)) = some kl := by
  have hl := lineOk_len h
  obtain ⟨a, b, c, d, e, f, g, i, j, k, rfl⟩ := list10 hl
  simp only [lineOk, List.all_cons, List.all_nil, Bool.and_eq_true, Bool.and_true] at h
  obtain ⟨_, ha, hb, hc, hd, he, hf, hg, hi, hj, hk⟩ := h
  have A := lineArr
  have hkt := A.keyType lineTypes
  obtain ⟨m, hm⟩ := lineTypes
  have hu := Try.underlying3
  refine ⟨.string (keyBytes [.int .i64 a, .int .i64 b, .int .i64 c, .int .i64 d, .int .i64 e, .int .i64 f, .int .i64 g, .int .i64 i, .int .i64 j, .int .i64 k]), ?_⟩
  unfold keyOf
  simp only [A.hu]
  rw [if_pos (by simp [hkt, Value.formed, A.hu, A.size, lineC]), hm]
  unfold Program.keyLits
  simp only [A.hu, Value.cells, lineC]
  rw [if_pos (by rw [A.size]; rfl), show List.range 10 = [0, 1, 2, 3, 4, 5, 6, 7, 8, 9] from rfl]
  simp only [List.mapM_cons, List.mapM_nil]
  simp [A.one, Program.keyLits, hu, ha, hb, hc, hd, he, hf, hg, hi, hj, hk]
/-- Block b is a map that holds the lines of S. -/
def LineSet (w : World) (b : Nat) (S : List (List Int)) : Prop := ∃ (n : Nat) (D : DataW Unit), w.ownsMap Try.prog 51 (plainElem Try.prog 4) b n D ∧ n ≤ S.length ∧ Maps.IsMap D ∧
  ∀ x, lineOk x = true → ∀ kl, keyOf Try.prog 51 (.agg (lineC x)) = some kl → D.atKey kl (.lit (.bool false)) = .lit (.bool (decide (x ∈ S)))
theorem LineSet.made (w : World) : LineSet (w.alloc (.map #[] 0)) w.heap.size [] :=
  ⟨0, .map [], World.ownsMap_made w _ _ _, Nat.le_refl _, Maps.isMap_empty, fun x _ kl _ => rfl⟩
theorem LineSet.kept {w w' : World} {b : Nat} {S : List (List Int)} {row : Option Nat} (h : LineSet w b S) (hg : w.grownBy w' row) (hne : some b ≠ row) : LineSet w' b S := by
  obtain ⟨n, D, h1, h2, h3, h4⟩ := h
  exact ⟨n, D, h1.kept hg hne, h2, h3, h4⟩
theorem LineSet.below {w w' : World} {b : Nat} {S : List (List Int)} (h : LineSet w b S) (hb : Below w.heap.size w w') : LineSet w' b S := by
  obtain ⟨n, D, h1, h2, h3, h4⟩ := h
  obtain ⟨es, clock, g1, g2, g3, g4⟩ := h1
  exact ⟨n, D, ⟨es, clock, (hb.block b (Array.getElem?_eq_some_iff.1 g1).1).trans g1, g2, g3, g4⟩, h2, h3, h4⟩
theorem LineSet.lt {w : World} {b : Nat} {S : List (List Int)} (h : LineSet w b S) : b < w.heap.size := by
  obtain ⟨n, D, h1, _⟩ := h
  exact h1.lt
theorem LineSet.ne {w : World} {b g : Nat} {S : List (List Int)} {cs : Array Value} {t : TypeId} (h : LineSet w b S) (hg : w.heap[g]? = some (.cells cs t (0, 0))) : b ≠ g := by
  obtain ⟨n, D, ⟨es, clock, h1, _⟩, _⟩ := h
  rintro rfl
  rw [h1] at hg
  cases hg
theorem plainElem_bool_inv_ {H : Type} {P : Program} {e : TypeId} (he : P.underlying e = some .bool) {v : Value} {y : Bool} {ps : List MemPlace} (h : plainElem (H := H) P e v = some (.lit (.bool y), ps)) : v = .bool y := by
  unfold plainElem at h
  rw [he] at h
  cases v <;> simp at h
  rw [h.1]
theorem boolZero (w : World) : (zeroValue 4).run Try.prog w = .ok (.bool false) w := by kernel_rfl
theorem LineSet.look {w : World} {b : Nat} {S : List (List Int)} (h : LineSet w b S) {x : List Int} (hx : lineOk x = true) : (Instr.lookup 67 (.map (some b)) (.agg (lineC x)) false).run Try.prog w = .ok (.bool (decide (x ∈ S))) w := by
  obtain ⟨n, D, h1, h2, h3, h4⟩ := h
  obtain ⟨kl, hkl⟩ := line_keyOf hx
  obtain ⟨v, ps, hrun, hv⟩ := h1.lookup lineKeyed Try.underlying67 (boolZero w) (plainElem_bool Try.underlying4 false) hkl
  rw [h4 x hx kl hkl] at hv
  rw [hrun, plainElem_bool_inv_ Try.underlying4 hv]
theorem LineSet.put {w : World} {b : Nat} {S : List (List Int)} (h : LineSet w b S) (hS : S.length < 17592186044416) {x : List Int} (hx : lineOk x = true) :
    ∃ w', (Instr.mapUpdate 67 (.map (some b)) (.agg (lineC x)) (.bool true)).run Try.prog w = .ok () w' ∧ LineSet w' b (S ++ [x]) ∧ w.grownBy w' (some b) := by
  obtain ⟨n, D, h1, h2, h3, h4⟩ := h
  obtain ⟨kl, hkl⟩ := line_keyOf hx
  obtain ⟨w', hrun, ho, hg⟩ := h1.update lineKeyed Try.underlying67 (by unfold maxLen; omega) hkl (plainElem_bool Try.underlying4 true)
  refine ⟨w', hrun, ⟨n + 1, _, ho, by rw [List.length_append]; simp; omega, h3.put _ _, fun y hy kl2 hkl2 => ?_⟩, hg⟩
  by_cases e : y = x
  · subst e
    rw [hkl] at hkl2
    obtain rfl := Option.some.inj hkl2
    rw [Maps.atKey_put_same h3 (lineKeyed.key hkl)]
    simp
  · have hne : kl2 ≠ kl := by
      rintro rfl
      exact e (lineC_inj (lineKeyed.inj hkl2 hkl))
    rw [Maps.atKey_put_other hne, h4 y hy kl2 hkl2]
    simp [e]
section
variable {P : Program} {ops : Array Oper} {rest : List Oper} {o : Oper} {a : Act} {w : World} {Q : Exit → Act → World → Prop}
theorem line_fill {x : List Int} (hx : x.length = 10) : Instr.fill (fun i => some (i * 10, 10)) ((Array.range (1 * 10)).map ((lineV (List.replicate 10 0)).cells[· % (lineV (List.replicate 10 0)).cells.size]!)) [(0, .agg (lineC x))] = some (lineC x) := by
  obtain ⟨a, b, c, d, e, f, g, i, j, k, rfl⟩ := list10 hx
  kernel_rfl
theorem line_build (t e : TypeId) (x : Operand) (hg : o.guard = none) (ho : o.op = .buildSlice t 1 #[(0, x)]) {l : List Int} (hx : a.eval x = .agg (lineC l)) (hl : l.length = 10) (hu : P.underlying t = some (.slice e)) (hi : (P.info? e).map (fun i => (i.zero, i.size)) = some (some (lineV (List.replicate 10 0)), 10))
    (h : wpList P ops Q rest (a.put o.dst (.slice (some ⟨w.heap.size, 0, none⟩) 1 1)) (w.alloc (.cells (lineC l) e))) : wpList P ops Q (o :: rest) a w := by
  obtain ⟨i0, h1, h2⟩ := Option.map_eq_some_iff.1 hi
  simp only [Prod.mk.injEq] at h2
  refine wpList_buildSlice hg t e 1 #[(0, x)] ho (lineC l) i0 (lineV (List.replicate 10 0)) hu h1 h2.1 (by rw [h2.2]; decide) (by rw [h2.2]; decide) ?_ h
  rw [h2.2]
  simp only [List.map_toArray, List.map_cons, List.map_nil, hx]
  exact line_fill hl
theorem line_look {m x : Operand} (hg : o.guard = none) (ho : o.op = .lookup 67 m x false) {b : Nat} {S : List (List Int)} {l : List Int} (hm : a.eval m = .map (some b)) (hx : a.eval x = .agg (lineC l)) (hS : LineSet w b S) (hok : lineOk l = true) {bb : Bool} (hbb : decide (l ∈ S) = bb)
    (h : wpList Try.prog ops Q rest (a.put o.dst (.bool bb)) w) : wpList Try.prog ops Q (o :: rest) a w := by
  subst hbb
  refine wpList_plain hg fun K hK => ?_
  unfold Oper.wp
  simp [execOp, ho, hm, hx, hS.look hok, Result.andThen]
  exact hK _ _ h
theorem line_put {m x y : Operand} (hg : o.guard = none) (hd : o.dst = none) (ho : o.op = .mapUpdate 67 m x y) {b : Nat} {S : List (List Int)} {l : List Int} (hm : a.eval m = .map (some b)) (hx : a.eval x = .agg (lineC l)) (hy : a.eval y = .bool true) (hS : LineSet w b S) (hlen : S.length < 17592186044416) (hok : lineOk l = true)
    (h : ∀ w', LineSet w' b (S ++ [l]) → w.grownBy w' (some b) → wpList Try.prog ops Q rest a w') : wpList Try.prog ops Q (o :: rest) a w := by
  refine wpList_plain hg fun K hK => ?_
  obtain ⟨w', hrun, h1, h2⟩ := hS.put hlen hok
  unfold Oper.wp
  simp [execOp, ho, hm, hx, hy, hrun, Result.andThen]
  show K (a.put o.dst undef) w'
  rw [hd]
  exact hK _ _ (h w' h1 h2)
/-- A whole array into the block that was made last. -/
theorem line_init {x y : Operand} (ty : TypeId) (hgd : o.guard = none) (hN : o.dst = none) (ho : o.op = .store ty x y) (g : Nat) (hg : w.heap.size = g) (hx : a.eval x = .pointer (some ⟨g, 0, none⟩)) {l l2 : List Int} (hy : a.eval y = .agg (lineC l2))
    (hi : (P.info? ty).map (·.size) = some 10) (hl : l.length = 10) (hl2 : l2.length = 10) (h : wpList P ops Q rest a (w.alloc (.cells (lineC l2) ty))) : wpList P ops Q (o :: rest) a (w.alloc (.cells (lineC l) ty)) := by
  subst hg
  refine line_store ty hgd hN ho w.heap.size hx (line_new w _) hy hi hl hl2 ?_
  rwa [World.setRow_alloc_new]
theorem line_grown (w : World) (g : Nat) (c : Array Value) : w.grownBy (w.setRow g c) (some g) := ⟨rfl, rfl, rfl, by simp [World.setRow], fun k _ hne => setRow_far (fun e => hne (by rw [e])) c⟩
/-- An array out of a row. -/
theorem line_at {x : Operand} (ty : TypeId) (hgd : o.guard = none) (ho : o.op = .load ty x) (ad : Addr) (hx : a.eval x = .pointer (some ad)) {l : List Int} (hc : ∀ j v, (l.map (Value.int .i64))[j]? = some v → w.cell? (ad.add j) = some v) {d : TypeDesc}
    (hu : P.underlying ty = some d) (hd : (match d with | .struct _ | .array _ _ => true | _ => false) = true) (hi : (P.info? ty).map (·.size) = some 10) (hl : l.length = 10) (h : wpList P ops Q rest (a.put o.dst (.agg (lineC l))) w) : wpList P ops Q (o :: rest) a w := by
  have hload : (loadVar ty ad).run P w = .ok (.agg (lineC l)) w := by
    have hl2 : (loadCells ad (l.map (Value.int .i64)).length).run P w = .ok (l.map (Value.int .i64)).toArray w := run_loadCells_list (P := P) w ad _ hc
    cases hq : P.info? ty with
    | none => simp [hq] at hi
    | some i =>
      have hs : i.size = 10 := by simpa [hq] using hi
      have hagg : (isAgg ty).run P w = .ok true w := by
        unfold isAgg
        rw [Sem.run_bind, run_underlying hu w]
        cases d <;> simp_all
      rw [List.length_map, hl] at hl2
      simp [loadVar, Sem.run_bind, hagg, sizeOf, typeInfo, hq, hs, hl2, lineC]
  refine wpList_plain hgd fun K hK => ?_
  unfold Oper.wp execOp
  simp only [ho, hx, Instr.loadAt, Instr.sureAddr, Sem.run_bind, Sem.run_pure, Result.andThen_ok, hload]
  exact hK _ _ h
end
theorem line_elem {w : World} {A : Option Addr} {xs : List (List Int)} (h : Kd.C Kd.line w A xs.length xs) {i : Nat} (hi : i < xs.length) : ∃ ad, A = some ad ∧ xs[i].length = 10 ∧ ∀ j v, (xs[i].map (Value.int .i64))[j]? = some v → w.cell? ((ad.add (i * 10)).add j) = some v := by
  obtain ⟨ad, hA, hc⟩ := h.2.2 (by omega)
  obtain ⟨c, hcl, ⟨rfl, hk⟩, hcc⟩ := hc i xs[i] (List.getElem?_eq_getElem hi)
  exact ⟨ad, hA, hk, fun j v hj => by rw [Addr.add_add]; exact hcc j v hj⟩
theorem nil_row {α : Type} {d : Kd α} {e base g : Nat} {w : World} (hg : base ≤ g) (h : w.heap[g]? = some (.cells #[] e (0, 0))) : d.R e w base (fun k => k = g) (.slice (some ⟨g, 0, none⟩) 0 0) [] :=
  ⟨fun k hk => by simpa [Value.ownBlock] using hk.symm, [], ⟨by simp, .inr ⟨g, 0, _, rfl, hg, h, Nat.le_refl _, by simp [maxLen], by simp, by simp⟩⟩, Reps.none _ _⟩
/-- A function over lines: whatever stands, it comes to F's answer. -/
def LineFn (v : Value) (F : List Int → Option (List Int)) (w0 : World) : Prop := ∀ (W : World) (x y : List Int), Below w0.heap.size w0 W → F x = some y → Applies Try.prog v #[.agg (lineC x)] W fun e W' => e = .returned (.agg (lineC y)) ∧ y.length = 10 ∧ Below W.heap.size W W'
def impl_cycles_line.go (F : List Int → Option (List Int)) : Nat → List (List Int) → List (List Int) → List Int → Option (List (List Int) × List (List Int))
  | 0, _, _, _ => none
  | k + 1, met, own, x => if lineOk x = true then (if x ∈ met then some (met, own) else if met.length < 1099511627776 ∧ own.length < 1099511627776 then (F x).bind fun y => impl_cycles_line.go F k (met ++ [x]) (own ++ [x]) y else none) else none
def impl_cycles_line.all (F : List Int → Option (List Int)) (k : Nat) : List (List Int) → List (List Int) → List (List (List Int)) → Option (List (List (List Int)))
  | [], _, outs => some outs
  | x :: r, met, outs => if lineOk x = true then (if x ∈ met then impl_cycles_line.all F k r met outs else (impl_cycles_line.go F k met [] x).bind fun p => if outs.length < 1099511627776 then impl_cycles_line.all F k r p.1 (outs ++ [p.2]) else none) else none
def impl_cycles_line.f (k : Nat) (F : List Int → Option (List Int)) (l : List (List Int)) : Option (List (List (List Int))) := if l.length < 1099511627776 then impl_cycles_line.all F k l [] [] else none

theorem lineInfo : (Try.prog.info? 51).map (fun i => (i.zero, i.size, i.bytes)) = some (some (lineV (List.replicate 10 0)), 10, 80) := by kernel_rfl
theorem lineInfoS : (Try.prog.info? 55).map (fun i => (i.zero, i.size, i.bytes)) = some (some (.slice none 0 0), 1, 24) := by kernel_rfl


set_option maxRecDepth 100000 in
set_option maxHeartbeats 8000000 in
theorem impl_cycles_line.calls (k : Nat) (A0 : Option Addr) (c0 : Nat) (l0 : List (List Int)) (v : Value) (F : List Int → Option (List Int)) (r : List (List (List Int))) (w : World) (hr0 : Kd.C Kd.line w A0 l0.length l0) (hc0 : l0.length ≤ c0) (hv : LineFn v F w) (h : impl_cycles_line.f k F l0 = some r) :
    Calls Try.prog 41 #[.slice A0 l0.length c0, v] w fun e w' => ∃ v0_ : Value, e = .returned v0_ ∧ Kd.R (Kd.slice 51 Kd.line) 55 w' w.heap.size (fun _ => True) v0_ r ∧ Below w.heap.size w w' := by
  unfold impl_cycles_line.f at h
  split at h
  case isFalse => cases h
  rename_i hl
  have HL := Aside0.mk hl
  have HH := Aside0.mk h
  have HR := Aside0.mk hr0
  have HC := Aside0.mk hc0
  have HV := Aside0.mk hv
  have hu102 := Try.underlying51
  clear hl h hr0 hc0 hv
  go_enter Try.func41, Try.ntmps41
  have hmm := @run_makeMap Try.prog
  go_wp2_with fail
  have BM := Aside0.mk (LineSet.made (w.alloc (.cells #[] 55)))
  have hs1 := line_size w (.cells #[] 55)
  rw [hs1] at BM
  have BO := Aside0.mk (nil_row (d := Kd.slice 51 Kd.line) (e := 55) (Nat.le_refl w.heap.size) (line_old (line_new w (.cells #[] 55)) (.map #[] 0)))
  have HB := Aside0.mk (below_alloc (below_alloc (Below.refl w.heap.size w) (.cells #[] 55)) (.map #[] 0))
  clear hs1 hmm
  generalize (w.alloc (.cells #[] 55)).alloc (.map #[] 0) = W at BM BO HB ⊢
  generalize hgo : w.heap.size = go at BO ⊢
  generalize hbm : go + 1 = bm at BM ⊢
  have HGM := Aside0.mk (show w.heap.size ≤ bm by omega)
  have BO2 := Aside0.mk (Kd.R_mono BO.out (ok' := fun k => k ≠ bm) (fun k hk => by omega))
  replace BO2 : Aside0 (Kd.R (Kd.slice 51 Kd.line) 55 W w.heap.size (fun k => k ≠ bm) (.slice (some ⟨go, 0, none⟩) 0 0) []) := by rw [hgo]; exact BO2
  have BM2 : Aside0 (LineSet W bm []) := by rw [← hbm, ← hgo]; exact BM
  clear BO BM hgo hbm
  go_loopg [5, 15] l0.length (fun kq v5 v15 w' => ∃ (i : Int) (j : Nat) (outs : List (List (List Int))) (S : List (List Int)), v15 = .int .i64 i ∧ Aside0 (i = (j : Int) ∧ j ≤ l0.length ∧ kq = l0.length - j) ∧ Aside0 (impl_cycles_line.all F k (l0.drop j) S outs = some r)
    ∧ Aside0 (Kd.R (Kd.slice 51 Kd.line) 55 w' w.heap.size (fun k => k ≠ bm) v5 outs) ∧ Aside0 (LineSet w' bm S) ∧ Aside0 (Below w.heap.size w w'))
  case atStart => exact ⟨0, 0, [], [], rfl, ⟨rfl, Nat.zero_le _, rfl⟩, ⟨by rw [List.drop_zero]; exact HH.out⟩, BO2, BM2, HB⟩
  case round =>
    clear HH BO2 BM2 HB
    obtain ⟨i, j, outs, S, rfl, HJ, HF, HO, HM, HB⟩ := hrel
    by_cases cj : i < (l0.length : Int)
    · have cjb : decide (i < (l0.length : Int)) = true := decide_eq_true cj
      have p1 : (0 ≤ i) = True := by have := HJ.out; simp; omega
      have hjl : j < l0.length := by have := HJ.out; omega
      have hds := HF.out
      rw [List.drop_eq_getElem_cons hjl] at hds
      obtain ⟨ad, rfl, hxl, hcell⟩ := line_elem (Kd.C_below HR.out HB.out) hjl
      have hij : i.toNat = j := by have := HJ.out; omega
      generalize l0[j] = x at hds hxl hcell
      rw [← hij] at hcell
      have HIJ := Aside0.mk hij
      have HJL := Aside0.mk hjl
      have HXL := Aside0.mk hxl
      have HCX := Aside0.mk hcell
      simp only [impl_cycles_line.all] at hds
      split at hds
      case isFalse => cases hds
      rename_i hok
      have HOK := Aside0.mk hok
      clear hij hxl hcell hok HF
      clear hjl
      replace cj := eq_true cj
      by_cases hm : x ∈ S
      · rw [if_pos hm] at hds
        have hmb : decide (x ∈ S) = true := decide_eq_true hm
        have HMB := Aside0.mk hmb
        have HF2 := Aside0.mk hds
        clear hds hm hmb
        go_wp2_with (first
          | ((with_reducible refine gate_ (.load 51 (.tmp 17)) rfl ?_); refine line_at 51 rfl rfl _ rfl HCX.out hu102 rfl lineI HXL.out ?_)
          | ((with_reducible refine gate_ (.store 51 (.tmp 8) (.tmp 18)) rfl ?_); refine line_init 51 (l := List.replicate 10 0) rfl rfl rfl _ rfl rfl rfl lineI (List.length_replicate ..) HXL.out ?_; have B8 := Aside0.mk (line_new wr (.cells (lineC x) 51)); replace HO := Aside0.mk (Kd.R_alloc HO.out (.cells (lineC x) 51)); replace HM := Aside0.mk (HM.out.below (below_alloc (Below.refl _ _) (.cells (lineC x) 51))); replace HB := Aside0.mk (below_alloc HB.out (.cells (lineC x) 51)); generalize wr.alloc (.cells (lineC x) 51) = W1 at B8 HO HM HB ⊢; generalize wr.heap.size = g8 at B8 ⊢)
          | ((with_reducible refine gate_ (.load 51 (.tmp 8)) rfl ?_); refine line_load 51 rfl rfl g8 rfl B8.out hu102 rfl lineI HXL.out ?_)
          | ((with_reducible refine gate_ (.lookup 67 (.tmp 19) (.tmp 20) false) rfl ?_); refine line_look rfl rfl rfl rfl HM.out HOK.out HMB.out ?_))
        go_roundg (l0.length - (j + 1))
        case measure => have := HJ.out; have := HJL.out; omega
        case rel => exact ⟨wrap64 (i + 1), j + 1, outs, S, rfl, ⟨by have := HJ.out.1; have := HJL.out; have := HL.out; unfold wrap64; omega, HJL.out, rfl⟩, HF2, HO, HM, HB⟩
      · rw [if_neg hm] at hds
        have hmb : decide (x ∈ S) = false := decide_eq_false hm
        have HMB := Aside0.mk hmb
        replace hds := Option.bind_eq_some_iff.mp hds
        obtain ⟨⟨met', own'⟩, hgo, hds⟩ := hds
        split at hds
        case isFalse => cases hds
        rename_i hol
        have HF2 := Aside0.mk hds
        have HGO := Aside0.mk hgo
        have HOL := Aside0.mk hol
        clear hds hm hmb hgo hol
        go_wp2_with (first
          | ((with_reducible refine gate_ (.load 51 (.tmp 17)) rfl ?_); refine line_at 51 rfl rfl _ rfl HCX.out hu102 rfl lineI HXL.out ?_)
          | ((with_reducible refine gate_ (.store 51 (.tmp 8) (.tmp 18)) rfl ?_); refine line_init 51 (l := List.replicate 10 0) rfl rfl rfl _ rfl rfl rfl lineI (List.length_replicate ..) HXL.out ?_; have B8 := Aside0.mk (line_new wr (.cells (lineC x) 51)); replace HO := Aside0.mk (Kd.R_alloc HO.out (.cells (lineC x) 51)); replace HM := Aside0.mk (HM.out.below (below_alloc (Below.refl _ _) (.cells (lineC x) 51))); replace HB := Aside0.mk (below_alloc HB.out (.cells (lineC x) 51)); generalize wr.alloc (.cells (lineC x) 51) = W1 at B8 HO HM HB ⊢; generalize wr.heap.size = g8 at B8 ⊢)
          | ((with_reducible refine gate_ (.load 51 (.tmp 8)) rfl ?_); refine line_load 51 rfl rfl g8 rfl (by first | exact B8.out | exact line_old B8.out _) hu102 rfl lineI HXL.out ?_)
          | ((with_reducible refine gate_ (.lookup 67 (.tmp 19) (.tmp 20) false) rfl ?_); refine line_look rfl rfl rfl rfl HM.out HOK.out HMB.out ?_)
          | ((with_reducible refine gate_ (.store 51 (.tmp 10) (.tmp 23)) rfl ?_); refine line_init 51 (l := List.replicate 10 0) rfl rfl rfl (W1.heap.size + 1) (line_size W1 _) rfl rfl lineI (List.length_replicate ..) HXL.out ?_; have hs := line_size W1 (.cells #[] 51); have BN := nil_row (d := Kd.line) (e := 51) (Nat.le_refl W1.heap.size) (line_old (line_new W1 (.cells #[] 51)) (.cells (lineC x) 51)); have bx := line_new (W1.alloc (.cells #[] 51)) (.cells (lineC x) 51); rw [hs] at bx; have BX := Aside0.mk bx; have hbb := below_alloc (below_alloc (Below.refl W1.heap.size W1) (.cells #[] 51)) (.cells (lineC x) 51); have HO2 := Aside0.mk (Kd.R_mono (ok' := fun k => k ≠ bm ∧ k < W1.heap.size) (Kd.R_below (Kd.R_bound HO.out) hbb) (fun _ hk => ⟨hk.1, hk.2.2.1⟩)); have HMN := Aside0.mk HM.out.lt; have HWN := Aside0.mk HB.out.size; replace HM := Aside0.mk (HM.out.below hbb); replace HB := Aside0.mk (below_step HB.out hbb); have BN2 := Aside0.mk (Kd.R_lower BN HWN.out); clear hs hbb bx BN HO; generalize (W1.alloc (.cells #[] 51)).alloc (.cells (lineC x) 51) = W2 at BX HO2 HM HB BN2 ⊢; generalize W1.heap.size = N at BX HO2 HMN HWN BN2 ⊢; have HXN := Aside0.mk (show N ≠ N + 1 ∧ N ≤ N + 1 by omega); generalize N + 1 = gx at BX HXN ⊢))
        clear B8
        go_loopg [9, 10] k (fun kq v9 v10 w' => ∃ (y : List Int) (own met : List (List Int)) (gy : Nat), v10 = .pointer (some ⟨gy, 0, none⟩) ∧ Aside0 (impl_cycles_line.go F kq met own y = some (met', own')) ∧ Aside0 (y.length = 10) ∧ Aside0 (w'.heap[gy]? = some (.cells (lineC y) 51 (0, 0)))
          ∧ Aside0 (Kd.R Kd.line 51 w' w.heap.size (fun k => N ≤ k ∧ k ≠ gy) v9 own) ∧ Aside0 (Kd.R (Kd.slice 51 Kd.line) 55 w' w.heap.size (fun k => k ≠ bm ∧ k < N) u5 outs) ∧ Aside0 (LineSet w' bm met) ∧ Aside0 (Below w.heap.size w w') ∧ Aside0 (N ≤ gy))
        case atStart => exact ⟨x, [], S, gx, rfl, HGO, HXL, BX, ⟨Kd.R_mono BN2.out (fun k hk => by have := HXN.out; omega)⟩, HO2, HM, HB, ⟨HXN.out.2⟩⟩
        case round =>
          clear HGO HXL BX BN2 HO2 HM HB HXN HCX HOK HMB
          obtain ⟨y, own, met, gy, rfl, HG, HY, BY, HOwn, HO, HM, HB, HNy⟩ := hrel
          cases gk with
          | zero => exact absurd HG.out (by simp [impl_cycles_line.go])
          | succ kq =>
            have hg := HG.out
            simp only [impl_cycles_line.go] at hg
            split at hg
            case isFalse => cases hg
            rename_i hok
            have HOKy := Aside0.mk hok
            clear hok HG
            by_cases hm : y ∈ met
            · rw [if_pos hm] at hg
              have hmb : decide (y ∈ met) = true := decide_eq_true hm
              have HMB := Aside0.mk hmb
              simp only [Option.some.injEq, Prod.mk.injEq] at hg
              obtain ⟨rfl, rfl⟩ := hg
              clear hm hmb
              obtain ⟨Ao, co, eo⟩ := Kd.R_slice HOwn.out
              subst eo
              have HAP := Aside0.mk (show (Kd.slice 51 Kd.line).M wr w.heap.size (fun k => N ≤ k) own [.slice Ao own.length co] from ⟨_, rfl, Kd.R_mono HOwn.out (fun _ h_ => h_.1)⟩)
              have HOK2 := Aside0.mk (show ∀ k_, N ≤ k_ → k_ ≠ bm ∧ some k_ ≠ u5.ownBlock from fun k_ hk => ⟨by have := HMN.out; omega, fun e_ => by have := HO.out.1 k_ e_.symm; omega⟩)
              have HFR := Aside0.mk (show ∀ k_, wr.heap.size ≤ k_ → k_ ≠ bm from fun k_ hk => by have := HM.out.lt; omega)
              have HO3 := Aside0.mk (Kd.R_mono HO.out (ok' := fun k => k ≠ bm) (fun _ h_ => h_.1))
              have HMb := Aside0.mk (show some bm ≠ u5.ownBlock from fun e_ => (HO.out.1 bm e_.symm).1 rfl)
              have HB9 := Aside0.mk HB.out.size
              go_wp2_with (first
                | ((with_reducible refine gate_ (.load 51 (.tmp 10)) rfl ?_); refine line_load 51 rfl rfl gy rfl BY.out hu102 rfl lineI HY.out ?_)
                | ((with_reducible refine gate_ (.lookup 67 (.tmp 24) (.tmp 25) false) rfl ?_); refine line_look rfl rfl rfl rfl HM.out HOKy.out HMB.out ?_)
                | ((with_reducible refine gate_builtin (b := .append) (xs := #[.tmp 38, .tmp 40]) rfl ?_); at_builtin; refine Kd.R_append (Kd.slice 51 Kd.line) (w0 := w) w.heap.size rfl (.tmp 38) (.tmp 40) 46 55 (.slice none 0 0) 24 rfl Try.underlying46 lineInfoS rfl (by decide) (by omega) u5 outs own [.slice Ao own.length co] (fun k_ => k_ ≠ bm) (fun k_ => N ≤ k_) rfl rfl HAP.out HOK2.out HFR.out HO3.out HB.out HB9.out (by have := HOL.out; omega) ?_; intro v1 w1 hR1 hB1 hg1 _; replace HM := Aside0.mk (HM.out.kept hg1 HMb.out); replace HO3 := Aside0.mk hR1; replace HB := Aside0.mk hB1; clear hR1 hB1 hg1))
              go_roundg (l0.length - (j + 1))
              case measure => have := HJ.out; have := HJL.out; omega
              case rel => exact ⟨wrap64 (i + 1), j + 1, _, _, rfl, ⟨by have := HJ.out.1; have := HJL.out; have := HL.out; unfold wrap64; omega, HJL.out, rfl⟩, HF2, HO3, HM, HB⟩
            · rw [if_neg hm] at hg
              have hmb : decide (y ∈ met) = false := decide_eq_false hm
              have HMB := Aside0.mk hmb
              split at hg
              case isFalse => cases hg
              rename_i hlim
              replace hg := Option.bind_eq_some_iff.mp hg
              obtain ⟨z, hz, hg⟩ := hg
              have HZ := Aside0.mk hz
              have HG2 := Aside0.mk hg
              have HLIM := Aside0.mk hlim
              clear hm hmb hz hg hlim
              have HLIM2 := Aside0.mk (show met.length < 17592186044416 by have := HLIM.out; omega)
              have HS0 := Aside0.mk (show w.heap.size ≤ wr.heap.size from HB.out.size)
              have HBG := Aside0.mk (show bm ≠ gy from HM.out.ne BY.out)
              go_wp2_with (first
                | ((with_reducible refine gate_ (.load 51 (.tmp 10)) rfl ?_); refine line_load 51 rfl rfl _ rfl BY.out hu102 rfl lineI HY.out ?_)
                | ((with_reducible refine gate_ (.lookup 67 (.tmp 24) (.tmp 25) false) rfl ?_); refine line_look rfl rfl rfl rfl HM.out HOKy.out HMB.out ?_)
                | ((with_reducible refine gate_ (.mapUpdate 67 (.tmp 31) (.tmp 32) (.const (.bool true))) rfl ?_); refine line_put rfl rfl rfl rfl rfl rfl HM.out HLIM2.out HOKy.out ?_; intro w3 hm3 hg3; replace HM := Aside0.mk hm3; replace HB := Aside0.mk (pw_below_grown HB.out _ HS0.out hg3 (fun k_ hk_ => by have := HGM.out; have := Option.some.inj hk_; omega)); replace BY := Aside0.mk (blk_grown BY.out hg3 (fun e_ => by have := HBG.out; have := Option.some.inj e_; omega)); replace HOwn := Aside0.mk (Kd.R_grown HOwn.out hg3 (fun k_ hk_ e_ => by have := HMN.out; have := Option.some.inj e_; omega)); replace HO := Aside0.mk (Kd.R_grown HO.out hg3 (fun k_ hk_ e_ => hk_.1 (Option.some.inj e_))); clear hm3 hg3 HS0; have HS0 := Aside0.mk HB.out.size; clear wr)
                | ((with_reducible refine gate_ (.buildSlice 55 1 #[(0, .tmp 34)]) rfl ?_); refine line_build 55 51 (.tmp 34) rfl rfl rfl HY.out Try.underlying55 lineZ ?_)
                | ((with_reducible refine gate_builtin (b := .append) (xs := #[.tmp 33, .tmp 35]) rfl ?_); at_builtin; refine Kd.R_append Kd.line (w0 := w) w.heap.size rfl (.tmp 33) (.tmp 35) 55 51 (lineV (List.replicate 10 0)) 80 rfl Try.underlying55 lineInfo rfl (by decide) (by decide) u9 own y (y.map (Value.int .i64)) (fun k_ => N ≤ k_ ∧ k_ ≠ gy) (fun _ => False) rfl rfl ⟨rfl, HY.out⟩ (fun _ h_ => h_.elim) (fun k_ hk_ => ⟨by have := HNy.out; have := blk_lt BY.out; omega, fun e_ => by have := blk_lt BY.out; omega⟩) HOwn.out HB.out HS0.out (by have := HLIM.out; omega) ?_; intro v1 v1w hR1 hB1 hg1 _; replace HM := Aside0.mk (HM.out.kept hg1 (fun e_ => by have := HOwn.out.1 _ e_.symm; have := HMN.out; omega)); replace BY := Aside0.mk (blk_grown BY.out hg1 (fun e_ => (HOwn.out.1 _ e_.symm).2 rfl)); replace HO := Aside0.mk (Kd.R_grown HO.out hg1 (fun k_ hk_ e_ => by have := HOwn.out.1 _ e_.symm; omega)); replace HOwn := Aside0.mk hR1; replace HB := Aside0.mk hB1; replace HS0 := Aside0.mk hB1.size; clear hR1 hB1 hg1)
                | ((with_reducible refine gate_ (.store 51 (.tmp 10) (.tmp 37)) rfl ?_); refine line_init 51 (l := List.replicate 10 0) rfl rfl rfl _ rfl rfl rfl lineI (List.length_replicate ..) HY.out ?_; have hbb := below_alloc (Below.refl v1w.heap.size v1w) (.cells (lineC y) 51); have HNy2 := Aside0.mk (show N ≤ v1w.heap.size by have := HNy.out; have := blk_lt BY.out; omega); replace HOwn := Aside0.mk (Kd.R_mono (ok' := fun k_ => N ≤ k_ ∧ k_ ≠ v1w.heap.size) (Kd.R_below (Kd.R_bound HOwn.out) hbb) (fun k_ hk_ => ⟨hk_.1.1, by have := hk_.2.2.1; omega⟩)); have BN := Aside0.mk (line_new v1w (.cells (lineC y) 51)); replace HO := Aside0.mk (Kd.R_below HO.out hbb); replace HM := Aside0.mk (HM.out.below hbb); replace HB := Aside0.mk (below_step HB.out hbb); clear hbb BY HNy HS0 HBG; generalize v1w.alloc (.cells (lineC y) 51) = W4 at BN HO HM HB HOwn ⊢; generalize v1w.heap.size = gn at BN HOwn HNy2 ⊢; clear v1w)
                | ((with_reducible refine gate_calleev rfl ?_); refine goesF_ (some 30) rfl rfl (v := v) rfl #[.agg (lineC y)] rfl (by (try simp only [List.map_toArray, List.map_cons, List.map_nil]); rfl) ?_; refine (HV.out _ y z HB.out HZ.out).mono ?_; rintro e w8 ⟨rfl, hzl, hb8⟩; refine ⟨_, rfl, ?_⟩; have HZL := Aside0.mk hzl; have BZ := Aside0.mk ((hb8.block gn (blk_lt BN.out)).trans BN.out); clear BN; replace HO := Aside0.mk (Kd.R_below HO.out hb8); replace HOwn := Aside0.mk (Kd.R_below HOwn.out hb8); replace HM := Aside0.mk (HM.out.below hb8); replace HB := Aside0.mk (below_step HB.out hb8); clear hb8 hzl)
                | ((with_reducible refine gate_ (.load 51 (.tmp 10)) rfl ?_); refine line_load 51 rfl rfl _ rfl BN.out hu102 rfl lineI HY.out ?_)
                | ((with_reducible refine gate_ (.store 51 (.tmp 10) (.tmp 30)) rfl ?_); refine line_store 51 rfl rfl rfl gn rfl BZ.out rfl lineI HY.out HZL.out ?_; have hg9 := line_grown w8 gn (lineC z); have BZ2 := Aside0.mk (setRow_same BZ.out (lineC z)); replace HM := Aside0.mk (HM.out.kept hg9 (fun e_ => HM.out.ne BZ.out (Option.some.inj e_))); replace HO := Aside0.mk (Kd.R_grown HO.out hg9 (fun k_ hk_ e_ => by have := HNy2.out; have := Option.some.inj e_; omega)); replace HOwn := Aside0.mk (Kd.R_grown HOwn.out hg9 (fun k_ hk_ e_ => hk_.2 (Option.some.inj e_))); replace HB := Aside0.mk (setRow_below (g := gn) (c2 := lineC z) HB.out (by have := HNy2.out; have := HWN.out; omega)); clear hg9 BZ))
              go_roundg kq
              case measure => omega
              case rel => exact ⟨z, _, _, gn, rfl, HG2, HZL, BZ2, HOwn, HO, HM, HB, HNy2⟩
    · have cjb : decide (i < (l0.length : Int)) = false := decide_eq_false cj
      have hr : outs = r := by
        have h1 := HJ.out
        have h2 := HF.out
        rw [show j = l0.length by omega, List.drop_length] at h2
        exact Option.some.inj h2
      subst hr
      clear cj
      go_wp2_with fail
      go_ret
      exact ⟨_, rfl, Kd.R_mono HO.out (fun _ _ => trivial), HB.out⟩


/-! ### impl_Poset_exchange: by hand -/
def impl_Poset_exchange.f (l x : List Int) (i : Int) : Option (List Int) := if x.length = 10 ∧ 0 ≤ i ∧ i < 9 then (if 0 ≤ rd x i ∧ rd x i < (l.length : Int) then (impl_has.f (rd l (rd x i)) (rd x (i + 1))).bind fun h1 => if h1 = true then some x else
    (if 0 ≤ rd x (i + 1) ∧ rd x (i + 1) < (l.length : Int) then (impl_has.f (rd l (rd x (i + 1))) (rd x i)).bind fun h2 => if h2 = true then some x else some ((x.set i.toNat (rd x (i + 1))).set (i.toNat + 1) (rd x i)) else none) else none) else none
set_option maxRecDepth 100000 in
set_option maxHeartbeats 4000000 in
theorem impl_Poset_exchange.calls (A0_0 : Option Addr) (c0_0 : Nat) (l0_0 : List Int) (x : List Int) (i : Int) (r : List Int) (w : World) (hr0_0 : Kd.C (Kd.int .i64) w A0_0 l0_0.length l0_0) (hc0_0 : l0_0.length ≤ c0_0) (h : impl_Poset_exchange.f l0_0 x i = some r) :
    Calls Try.prog 53 #[.agg #[.slice A0_0 l0_0.length c0_0], .agg (lineC x), .int .i64 i] w fun e w' => e = .returned (.agg (lineC r)) ∧ Below w.heap.size w w' := by
  have hu29 := Try.underlying29
  have hu102 := Try.underlying51
  unfold impl_Poset_exchange.f at h
  split at h
  case isFalse => cases h
  rename_i hi
  obtain ⟨hxl, hi0, hi9⟩ := hi
  split at h
  case isFalse => cases h
  rename_i ha
  replace h := Option.bind_eq_some_iff.mp h
  obtain ⟨b1, hb1, h⟩ := h
  have HX := Aside0.mk hxl
  have HI0 := Aside0.mk hi0
  have HI9 := Aside0.mk hi9
  have HA := Aside0.mk ha
  have HB1_ := Aside0.mk hb1
  have HH := Aside0.mk h
  have HR := Aside0.mk hr0_0
  have HC := Aside0.mk hc0_0
  clear hxl hi0 hi9 ha hb1 h hr0_0 hc0_0
  go_enter Try.func53, Try.ntmps53
  go_wp2_with fail
  have BP := Aside0.mk (line_old (line_old (line_new w (.cells #[.slice A0_0 l0_0.length c0_0] 29)) (.cells (lineC x) 51)) (.cells (lineC (List.replicate 10 0)) 51))
  have hb2 := line_new (w.alloc (.cells #[.slice A0_0 l0_0.length c0_0] 29)) (.cells (lineC x) 51)
  have hb3 := line_new ((w.alloc (.cells #[.slice A0_0 l0_0.length c0_0] 29)).alloc (.cells (lineC x) 51)) (.cells (lineC (List.replicate 10 0)) 51)
  rw [line_size] at hb2
  rw [line_size, line_size] at hb3
  have BL := Aside0.mk (line_old hb2 (.cells (lineC (List.replicate 10 0)) 51))
  have BR := Aside0.mk hb3
  have HB := Aside0.mk (below_alloc (below_alloc (below_alloc (Below.refl w.heap.size w) (.cells #[.slice A0_0 l0_0.length c0_0] 29)) (.cells (lineC x) 51)) (.cells (lineC (List.replicate 10 0)) 51))
  clear hb2 hb3
  have e3 : (((w.alloc (.cells #[.slice A0_0 l0_0.length c0_0] 29)).alloc (.cells (lineC x) 51)).alloc (.cells #[.int .i64 0, .int .i64 0, .int .i64 0, .int .i64 0, .int .i64 0, .int .i64 0, .int .i64 0, .int .i64 0, .int .i64 0, .int .i64 0] 51)) = (((w.alloc (.cells #[.slice A0_0 l0_0.length c0_0] 29)).alloc (.cells (lineC x) 51)).alloc (.cells (lineC (List.replicate 10 0)) 51)) := rfl
  rw [e3]
  clear e3
  generalize (((w.alloc (.cells #[.slice A0_0 l0_0.length c0_0] 29)).alloc (.cells (lineC x) 51)).alloc (.cells (lineC (List.replicate 10 0)) 51)) = W at BP BL BR HB ⊢
  have GL := Aside0.mk (show w.heap.size ≤ w.heap.size + 1 by omega)
  have GR := Aside0.mk (show w.heap.size ≤ w.heap.size + 1 + 1 by omega)
  have NE := Aside0.mk (show w.heap.size + 1 + 1 ≠ w.heap.size + 1 by omega)
  have NE2 := Aside0.mk (show w.heap.size ≠ w.heap.size + 1 by omega)
  generalize w.heap.size + 1 + 1 = gr at BR GR NE ⊢
  generalize w.heap.size + 1 = gl at BL GL NE NE2 ⊢
  generalize hgp : w.heap.size = gp at BP NE2 ⊢
  have HGP := Aside0.mk hgp
  have hi0 := HI0.out
  have hi9 := HI9.out
  have hz1 := line_cell BL.out i hi0 (by rw [HX.out]; omega)
  have hz2 := line_cell BL.out (i + 1) (by omega) (by rw [HX.out]; omega)
  have hs1 : IntKind.i64.wrap (i + 1) = i + 1 := by rw [i64_w]; unfold wrap64; omega
  have hs2 : (0 ≤ i + 1) = True := by simp; omega
  have hs3 : (i + 1 < 10) = True := by simp; omega
  have hs5 : (i < 10) = True := by simp; omega
  have hs6 : (0 ≤ i) = True := by simp; omega
  have hs4 := Aside0.mk (show (i + 1).toNat = i.toNat + 1 by omega)
  clear hi0 hi9 hgp
  go_quiet (fail)
  replace BP := Aside0.mk (blk_below BP.out (pw_below_drewN (Below.refl _ _) nq))
  replace BL := Aside0.mk (blk_below BL.out (pw_below_drewN (Below.refl _ _) nq))
  replace BR := Aside0.mk (blk_below BR.out (pw_below_drewN (Below.refl _ _) nq))
  replace HB := Aside0.mk (below_step HB.out (pw_below_drewN (Below.refl _ _) nq))
  clear hz1 hz2
  generalize W.drewN nq = W2 at BP BL BR HB ⊢
  obtain ⟨a, ea⟩ : ∃ a, rd x i = a := ⟨_, rfl⟩
  obtain ⟨b, eb⟩ : ∃ b, rd x (i + 1) = b := ⟨_, rfl⟩
  rw [ea] at HA HB1_ HH
  rw [eb] at HB1_ HH
  rw [ea, eb]
  clear ea eb
  have ha0 := HA.out.1
  have ha1 := HA.out.2
  obtain ⟨adl, el, hxa⟩ := Kd.at_int (Kd.C_below HR.out HB.out) a ha0 ha1
  cases el
  have hzp : W2.cell? ⟨gp, 0, none⟩ = some (.slice (some adl) l0_0.length c0_0) := (blk_cell BP.out 0).trans rfl
  have h := HH.out
  cases b1 with
  | true =>
    obtain rfl := Option.some.inj h
    clear h HH
    go_wp2_with (first
      | ((with_reducible refine gate_callee (f := 69) rfl ?_); refine goesL_ (some 22) rfl rfl Try.func69 (by kernel_rfl) rfl #[.int .i64 (rd l0_0 a), .int .i64 b] rfl (by (try simp only [List.map_toArray, List.map_cons, List.map_nil]); first | done | rfl) ?_; refine (impl_has.calls _ _ true _ HB1_.out).mono ?_; rintro e w' ⟨rfl, nd1, rfl⟩; refine ⟨_, rfl, ?_⟩)
      | ((with_reducible refine gate_ (.load 51 (.tmp 4)) rfl ?_); refine line_load 51 rfl rfl gl rfl BL.out hu102 rfl lineI HX.out ?_)
      | ((with_reducible refine gate_ (.store 51 (.tmp 6) (.tmp 41)) rfl ?_); refine line_store 51 rfl rfl rfl gr rfl BR.out rfl lineI (List.length_replicate ..) HX.out ?_))
    (try simp only [Exit.inBlock, Exit.then])
    refine bodyPost_ret (results_cell_row rfl _ _ gr _ (lineC x) (0, 0) _ rfl (setRow_same BR.out _) hu102 rfl (by rw [lineI, lineC_size, HX.out])) rfl ?_
    exact ⟨rfl, setRow_below (below_step HB.out (pw_below_drewN (Below.refl _ _) _)) GR.out⟩
  | false =>
    rw [if_neg (by decide)] at h
    split at h
    case isFalse => cases h
    rename_i hbb
    replace h := Option.bind_eq_some_iff.mp h
    obtain ⟨b2, hb2, h⟩ := h
    have HB2_ := Aside0.mk hb2
    obtain ⟨hb0, hb1⟩ := hbb
    obtain ⟨adl', el, hxb⟩ := Kd.at_int (Kd.C_below HR.out HB.out) b hb0 hb1
    cases el
    have HH2 := Aside0.mk h
    clear hb2 h HH
    cases b2 with
    | true =>
      obtain rfl := Option.some.inj HH2.out
      clear HH2
      go_wp2_with (first
        | ((with_reducible refine gate_callee (f := 69) rfl ?_); refine goesL_ (some 22) rfl rfl Try.func69 (by kernel_rfl) rfl #[.int .i64 (rd l0_0 a), .int .i64 b] rfl (by (try simp only [List.map_toArray, List.map_cons, List.map_nil]); first | done | rfl) ?_; refine (impl_has.calls _ _ false _ HB1_.out).mono ?_; rintro e w' ⟨rfl, nd1, rfl⟩; refine ⟨_, rfl, ?_⟩)
        | (go_at_call 69; (with_reducible refine (impl_has.calls (rd l0_0 b) a true _ HB2_.out).mono ?_); rintro e w' ⟨rfl, nd2, rfl⟩)
        | ((with_reducible refine gate_ (.load 51 (.tmp 4)) rfl ?_); refine line_load 51 rfl rfl gl rfl BL.out hu102 rfl lineI HX.out ?_)
        | ((with_reducible refine gate_ (.store 51 (.tmp 6) (.tmp 41)) rfl ?_); refine line_store 51 rfl rfl rfl gr rfl BR.out rfl lineI (List.length_replicate ..) HX.out ?_))
      (try simp only [Exit.inBlock, Exit.then])
      refine bodyPost_ret (results_cell_row rfl _ _ gr _ (lineC x) (0, 0) _ rfl (setRow_same BR.out _) hu102 rfl (by rw [lineI, lineC_size, HX.out])) rfl ?_
      exact ⟨rfl, setRow_below (below_step HB.out (pw_below_drewN (Below.refl _ _) _)) GR.out⟩
    | false =>
      have hr := Option.some.inj HH2.out
      have HRR := Aside0.mk hr
      have hz1 : W2.cell? ⟨gl, i.toNat, none⟩ = some (.int .i64 (rd x i)) := line_cell BL.out i HI0.out (by have := HI9.out; have := HX.out; omega)
      have hz2 : W2.cell? ⟨gl, i.toNat + 1, none⟩ = some (.int .i64 (rd x (i + 1))) := by rw [← hs4.out]; exact line_cell BL.out (i + 1) (by have := HI0.out; omega) (by have := HI9.out; have := HX.out; omega)
      have hf1 : W2.frozen? ⟨gl, i.toNat, none⟩ = false := blk_frozen BL.out _
      have hf2 : W2.frozen? ⟨gl, i.toNat + 1, none⟩ = false := blk_frozen BL.out _
      have hs7 : (i + 1).toNat = i.toNat + 1 := hs4.out
      have BL2 := Aside0.mk (line_set (line_set BL.out i.toNat b) (i.toNat + 1) a)
      have BR2 := Aside0.mk (blk_far (blk_far BR.out NE.out (p := ⟨gl, i.toNat, none⟩) (.int .i64 b)) NE.out (p := ⟨gl, i.toNat + 1, none⟩) (.int .i64 a))
      have HB2 : Aside0 (Below w.heap.size w ((W2.setCell ⟨gl, i.toNat, none⟩ (.int .i64 b)).setCell ⟨gl, i.toNat + 1, none⟩ (.int .i64 a))) := ⟨(HB.out.setCell GL.out _).setCell GL.out _⟩
      have HX2 := Aside0.mk (show ((x.set i.toNat b).set (i.toNat + 1) a).length = 10 by rw [List.length_set, List.length_set]; exact HX.out)
      clear hr HH2
      go_wp2_with (first
        | ((with_reducible refine gate_callee (f := 69) rfl ?_); refine goesL_ (some 22) rfl rfl Try.func69 (by kernel_rfl) rfl #[.int .i64 (rd l0_0 a), .int .i64 b] rfl (by (try simp only [List.map_toArray, List.map_cons, List.map_nil]); first | done | rfl) ?_; refine (impl_has.calls _ _ false _ HB1_.out).mono ?_; rintro e w' ⟨rfl, nd1, rfl⟩; refine ⟨_, rfl, ?_⟩)
        | (go_at_call 69; (with_reducible refine (impl_has.calls (rd l0_0 b) a false _ HB2_.out).mono ?_); rintro e w' ⟨rfl, nd2, rfl⟩)
        | ((with_reducible refine gate_ (.load 51 (.tmp 4)) rfl ?_); refine line_load 51 rfl rfl gl rfl BL2.out hu102 rfl lineI HX2.out ?_)
        | ((with_reducible refine gate_ (.store 51 (.tmp 6) (.tmp 41)) rfl ?_); refine line_store 51 rfl rfl rfl gr rfl BR2.out rfl lineI (List.length_replicate ..) HX2.out ?_))
      (try simp only [Exit.inBlock, Exit.then])
      refine bodyPost_ret (results_cell_row rfl _ _ gr _ (lineC ((x.set i.toNat b).set (i.toNat + 1) a)) (0, 0) _ rfl (setRow_same BR2.out _) hu102 rfl (by rw [lineI, lineC_size, HX2.out])) rfl ?_
      exact ⟨by rw [HRR.out], setRow_below (below_step HB2.out (pw_below_drewN (Below.refl _ _) _)) GR.out⟩


/-! ### impl_Poset_promoted: by hand -/
theorem impl_Poset_exchange.length {l x r : List Int} {i : Int} (h : impl_Poset_exchange.f l x i = some r) : r.length = 10 := by
  unfold impl_Poset_exchange.f at h
  split at h
  case isFalse => cases h
  rename_i hi
  split at h
  case isFalse => cases h
  obtain ⟨b1, _, h⟩ := Option.bind_eq_some_iff.mp h
  split at h
  · rw [← Option.some.inj h]; exact hi.1
  · split at h
    case isFalse => cases h
    obtain ⟨b2, _, h⟩ := Option.bind_eq_some_iff.mp h
    split at h
    · rw [← Option.some.inj h]; exact hi.1
    · rw [← Option.some.inj h, List.length_set, List.length_set]; exact hi.1
def impl_Poset_promoted.f (l x : List Int) : Option (List Int) := if x.length = 10 ∧ l.length < 17592186044416 then (List.range (l.length - 1)).foldlM (fun x (i : Nat) => impl_Poset_exchange.f l x (i : Int)) x else none
theorem impl_Poset_promoted.len_go {l : List Int} : ∀ {es : List Nat} {x r : List Int}, x.length = 10 → es.foldlM (fun x (i : Nat) => impl_Poset_exchange.f l x (i : Int)) x = some r → r.length = 10
  | [], x, r, hx, h => by rw [← Option.some.inj h]; exact hx
  | e :: es, x, r, hx, h => by
    rw [List.foldlM_cons] at h
    obtain ⟨y, hy, h⟩ := Option.bind_eq_some_iff.mp h
    exact impl_Poset_promoted.len_go (impl_Poset_exchange.length hy) h
theorem impl_Poset_promoted.length {l x r : List Int} (h : impl_Poset_promoted.f l x = some r) : r.length = 10 := by
  unfold impl_Poset_promoted.f at h
  split at h
  case isFalse => cases h
  rename_i hx
  exact impl_Poset_promoted.len_go hx.1 h
set_option maxRecDepth 100000 in
set_option maxHeartbeats 4000000 in
theorem impl_Poset_promoted.calls (A0_0 : Option Addr) (c0_0 : Nat) (l0_0 : List Int) (x : List Int) (r : List Int) (w : World) (hr0_0 : Kd.C (Kd.int .i64) w A0_0 l0_0.length l0_0) (hc0_0 : l0_0.length ≤ c0_0) (h : impl_Poset_promoted.f l0_0 x = some r) :
    Calls Try.prog 42 #[.agg #[.slice A0_0 l0_0.length c0_0], .agg (lineC x)] w fun e w' => e = .returned (.agg (lineC r)) ∧ Below w.heap.size w w' := by
  have hu29 := Try.underlying29
  have hu102 := Try.underlying51
  unfold impl_Poset_promoted.f at h
  split at h
  case isFalse => cases h
  rename_i hi
  have HX := Aside0.mk hi.1
  have HL := Aside0.mk hi.2
  have HH := Aside0.mk h
  have HR := Aside0.mk hr0_0
  have HC := Aside0.mk hc0_0
  clear hi h hr0_0 hc0_0
  go_enter Try.func42, Try.ntmps42
  go_wp2_with fail
  have BP := Aside0.mk (line_old (line_old (line_new w (.cells #[.slice A0_0 l0_0.length c0_0] 29)) (.cells (lineC x) 51)) (.cells (lineC (List.replicate 10 0)) 51))
  have hb2 := line_new (w.alloc (.cells #[.slice A0_0 l0_0.length c0_0] 29)) (.cells (lineC x) 51)
  have hb3 := line_new ((w.alloc (.cells #[.slice A0_0 l0_0.length c0_0] 29)).alloc (.cells (lineC x) 51)) (.cells (lineC (List.replicate 10 0)) 51)
  rw [line_size] at hb2
  rw [line_size, line_size] at hb3
  have BL := Aside0.mk (line_old hb2 (.cells (lineC (List.replicate 10 0)) 51))
  have BR := Aside0.mk hb3
  have HB := Aside0.mk (below_alloc (below_alloc (below_alloc (Below.refl w.heap.size w) (.cells #[.slice A0_0 l0_0.length c0_0] 29)) (.cells (lineC x) 51)) (.cells (lineC (List.replicate 10 0)) 51))
  clear hb2 hb3
  have e3 : (((w.alloc (.cells #[.slice A0_0 l0_0.length c0_0] 29)).alloc (.cells (lineC x) 51)).alloc (.cells #[.int .i64 0, .int .i64 0, .int .i64 0, .int .i64 0, .int .i64 0, .int .i64 0, .int .i64 0, .int .i64 0, .int .i64 0, .int .i64 0] 51)) = (((w.alloc (.cells #[.slice A0_0 l0_0.length c0_0] 29)).alloc (.cells (lineC x) 51)).alloc (.cells (lineC (List.replicate 10 0)) 51)) := rfl
  rw [e3]
  clear e3
  generalize (((w.alloc (.cells #[.slice A0_0 l0_0.length c0_0] 29)).alloc (.cells (lineC x) 51)).alloc (.cells (lineC (List.replicate 10 0)) 51)) = W at BP BL BR HB ⊢
  have GL := Aside0.mk (show w.heap.size ≤ w.heap.size + 1 by omega)
  have GR := Aside0.mk (show w.heap.size ≤ w.heap.size + 1 + 1 by omega)
  have NE := Aside0.mk (show w.heap.size + 1 + 1 ≠ w.heap.size + 1 by omega)
  have NE2 := Aside0.mk (show w.heap.size ≠ w.heap.size + 1 by omega)
  generalize w.heap.size + 1 + 1 = gr at BR GR NE ⊢
  generalize w.heap.size + 1 = gl at BL GL NE NE2 ⊢
  generalize hgp : w.heap.size = gp at BP NE2 ⊢
  have HGP := Aside0.mk hgp
  clear hgp
  have hzp : W.cell? ⟨gp, 0, none⟩ = some (.slice A0_0 l0_0.length c0_0) := (blk_cell BP.out 0).trans rfl
  refine (impl_Poset_n.calls _ _ l0_0 (l0_0.length : Int) _ ?s1 ?s2 rfl).mono ?_
  case s1 => exact Kd.C_below HR.out HB.out
  case s2 => exact HC.out
  rintro e W2 ⟨rfl, hb⟩
  replace BP := Aside0.mk (blk_below BP.out hb)
  replace BL := Aside0.mk (blk_below BL.out hb)
  replace BR := Aside0.mk (blk_below BR.out hb)
  replace HB := Aside0.mk (below_step HB.out hb)
  clear hb hzp
  obtain ⟨n1, hn1⟩ : ∃ n1 : Int, wrap64 ((l0_0.length : Int) - 1) = n1 := ⟨_, rfl⟩
  have HN1 := Aside0.mk (show n1 = (l0_0.length : Int) - 1 by rw [← hn1]; have := HL.out; unfold wrap64; omega)
  have hn2 : IntKind.i64.wrap ((l0_0.length : Int) - 1) = n1 := by rw [i64_w]; exact hn1
  go_wp2_with fail
  (try rw [hn2])
  (try rw [hn1])
  clear hn1 hn2
  go_loopg [5, 9] l0_0.length (fun kq v5 v9 w' => ∃ (i : Int) (j : Nat) (y : List Int), v9 = .int .i64 i ∧ Aside0 (i = (j : Int) ∧ j ≤ l0_0.length - 1 ∧ kq = l0_0.length - j ∧ y.length = 10) ∧ Aside0 (((List.range (l0_0.length - 1)).drop j).foldlM (fun x (i : Nat) => impl_Poset_exchange.f l0_0 x (i : Int)) y = some r)
    ∧ Aside0 (w'.heap[gp]? = some (.cells #[.slice A0_0 l0_0.length c0_0] 29 (0, 0))) ∧ Aside0 (w'.heap[gl]? = some (.cells (lineC y) 51 (0, 0))) ∧ Aside0 (w'.heap[gr]? = some (.cells (lineC (List.replicate 10 0)) 51 (0, 0))) ∧ Aside0 (Below w.heap.size w w'))
  case atStart => exact ⟨0, 0, x, rfl, ⟨rfl, Nat.zero_le _, rfl, HX.out⟩, ⟨by rw [List.drop_zero]; exact HH.out⟩, BP, BL, BR, HB⟩
  case round =>
    clear HH BP BL BR HB
    obtain ⟨i, j, y, rfl, HJ, HF, BP, BL, BR, HB⟩ := hrel
    by_cases cj : i < n1
    · have cjb : decide (i < n1) = true := decide_eq_true cj
      have hjl : j < l0_0.length - 1 := by have := HJ.out.1; have := HN1.out; omega
      have hds := HF.out
      rw [List.drop_eq_getElem_cons (by rw [List.length_range]; exact hjl), List.foldlM_cons, List.getElem_range] at hds
      replace hds := Option.bind_eq_some_iff.mp hds
      obtain ⟨y2, hy2, hds⟩ := hds
      rw [← HJ.out.1] at hy2
      have HY2 := Aside0.mk hy2
      have HY2L := Aside0.mk (impl_Poset_exchange.length hy2)
      have HF2 := Aside0.mk hds
      have HJL := Aside0.mk hjl
      clear hy2 hds hjl HF cj
      have hzp : wr.cell? ⟨gp, 0, none⟩ = some (.slice A0_0 l0_0.length c0_0) := (blk_cell BP.out 0).trans rfl
      go_wp2_with (first
        | ((with_reducible refine gate_ (.load 51 (.tmp 3)) rfl ?_); refine line_load 51 rfl rfl gl rfl BL.out hu102 rfl lineI HJ.out.2.2.2 ?_)
        | ((with_reducible refine gate_callee (f := 53) rfl ?_); refine goesL_ (some 15) rfl rfl Try.func53 (by kernel_rfl) rfl #[.agg #[.slice A0_0 l0_0.length c0_0], .agg (lineC y), .int .i64 i] rfl (by (try simp only [List.map_toArray, List.map_cons, List.map_nil]); first | done | rfl) ?_; refine (impl_Poset_exchange.calls A0_0 c0_0 l0_0 y i y2 _ (Kd.C_below HR.out HB.out) HC.out HY2.out).mono ?_; rintro e w3 ⟨rfl, hb⟩; refine ⟨_, rfl, ?_⟩; replace BP := Aside0.mk (blk_below BP.out hb); replace BL := Aside0.mk (blk_below BL.out hb); replace BR := Aside0.mk (blk_below BR.out hb); replace HB := Aside0.mk (below_step HB.out hb); clear hb hzp)
        | ((with_reducible refine gate_ (.store 51 (.tmp 3) (.tmp 15)) rfl ?_); refine line_store 51 rfl rfl rfl gl rfl BL.out rfl lineI HJ.out.2.2.2 HY2L.out ?_))
      go_roundg (l0_0.length - (j + 1))
      case measure => have := HJ.out; have := HJL.out; omega
      case rel => exact ⟨wrap64 (i + 1), j + 1, y2, rfl, ⟨by have := HJ.out.1; have := HJL.out; have := HL.out; unfold wrap64; omega, HJL.out, rfl, HY2L.out⟩, HF2, ⟨(setRow_far NE2.out _).trans BP.out⟩, ⟨setRow_same BL.out _⟩, ⟨(setRow_far NE.out _).trans BR.out⟩, ⟨setRow_below HB.out GL.out⟩⟩
    · have cjb : decide (i < n1) = false := decide_eq_false cj
      have hr : y = r := by
        have h1 := HJ.out
        have h2 := HF.out
        have h3 := HN1.out
        rw [List.drop_of_length_le (by rw [List.length_range]; omega)] at h2
        exact Option.some.inj h2
      subst hr
      clear cj
      go_wp2_with (first
        | ((with_reducible refine gate_ (.load 51 (.tmp 3)) rfl ?_); refine line_load 51 rfl rfl gl rfl BL.out hu102 rfl lineI HJ.out.2.2.2 ?_)
        | ((with_reducible refine gate_ (.store 51 (.tmp 4) (.tmp 17)) rfl ?_); refine line_store 51 rfl rfl rfl gr rfl BR.out rfl lineI (List.length_replicate ..) HJ.out.2.2.2 ?_))
      (try simp only [Exit.inBlock, Exit.then])
      refine bodyPost_ret (results_cell_row rfl _ _ gr _ (lineC y) (0, 0) _ rfl (setRow_same BR.out _) hu102 rfl (by rw [lineI, lineC_size, HJ.out.2.2.2])) rfl ?_
      exact ⟨rfl, setRow_below HB.out GR.out⟩


end Go.Proofs.Ytbmdbeboegdcaaa.PPg
