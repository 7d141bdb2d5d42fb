-- Written for this claim by wip/gprint.py, out of the translation and of hand-written parts.
import Derived.Test.YtcajljndcddldaaPDax0
import Derived.Test.YtcajljndcddldaaPDax4
import Derived.Test.YtcajljndcddldaaPDax5
import Derived.Test.YtcajljndcddldaaPDax6
namespace Go.Proofs.Ytcajljndcddldaa.PDa
open Go.RowKit Go.Proofs.YtcajljndcddldaaW.PrintWords Go.Proofs.YtcajljndcddldaaW.PrintLast Go.Proofs.YtcajljndcddldaaW.PrintMore
attribute [local go_sem] max2_int min2_int max_two min_two max_three min_three max_four min_four   -- for this text's walks alone
set_option linter.unusedVariables false
set_option linter.unusedSimpArgs false

/-! ### impl_Poset_labels: by hand -/
theorem lb_new_ (w : World) (o : Obj) : (w.alloc o).heap[w.heap.size]? = some o := by unfold World.alloc; exact Array.getElem?_push_size
theorem lb_alloc_ {w : World} {g : Nat} {o : Obj} (h : w.heap[g]? = some o) (x : Obj) : (w.alloc x).heap[g]? = some o := (below_alloc (Below.refl w.heap.size w) x).block g (blk_lt h) |>.trans h
theorem lb_size_ (w : World) (o : Obj) : (w.alloc o).heap.size = w.heap.size + 1 := by unfold World.alloc; exact Array.size_push _
theorem lb_store_fn_ {P : Program} {w : World} (a : Addr) (m : Mode) (fn : Fn) (first captured : Array Value) : (store a (.func fn first captured) m).run P w = stored P w a (.func fn first captured) m := run_store P w a _ m rfl
attribute [local go_sem] lb_store_fn_
theorem lb_ne_ {w : World} {g g' : Nat} {o o' : Obj} (h : w.heap[g]? = some o) (h' : w.heap[g']? = some o') (hne : o ≠ o') : g ≠ g' := by
  rintro rfl
  rw [h] at h'
  exact hne (Option.some.inj h')
theorem lb_row_ {w : World} {base g n : Nat} (hg : base ≤ g) (h : w.heap[g]? = some (.cells (madeCells #[Value.int .i64 0] n) 3 (0, 0))) (hm : n ≤ 9223372036854775807) : Kd.R (Kd.int .i64) 3 w base (fun k => k = g) (.slice (some ⟨g, 0, none⟩) n n) (List.replicate n 0) := by
  have hc : (madeCells #[Value.int .i64 0] n).size = n := by simp [size_madeCells]
  have hs : (Kd.int .i64).sz = 1 := rfl
  refine ⟨fun k hk => by simpa [Value.ownBlock] using hk.symm, (madeCells #[Value.int .i64 0] n).toList, ⟨by rw [hs]; simp [hc], .inr ⟨g, n, _, by simp, hg, h, by simp, by simpa [maxLen] using hm, by rw [hs]; simp [hc], by rw [List.take_of_length_le]; rw [hs]; simp [hc]⟩⟩, ?_⟩
  have := Kd.reps_made (R := (Kd.int .i64).M w base (fun k => (fun k => k = g) k ∧ some k ≠ (Value.slice (some ⟨g, 0, none⟩) n n).ownBlock)) (z := Value.int .i64 0) (size := 1) (z0 := (0 : Int)) rfl (by omega) (by rfl) n
  rw [Nat.mul_one] at this
  rw [hs]
  exact this
theorem Kd.run_make_ {P : Program} (W : World) (t e : TypeId) (n : Nat) (ht : P.underlying t = some (.slice e)) (hinfo : (P.info? e).map (fun i => (i.zero, i.size, i.bytes)) = some (some (Value.int .i64 0), 1, 8)) (hn : n < 17592186044416) :
    (Instr.makeSlice t (.int .i64 (n : Int)) (.int .i64 (n : Int))).run P W = .ok (.slice (some ⟨W.heap.size, 0, none⟩) n n) (W.alloc (.cells (madeCells #[Value.int .i64 0] n) e)) :=
  print_make_of t e (.int .i64 0) 8 ht hinfo rfl (by omega) n (by omega) W
theorem lb_make_ {P : Program} {oi : Oper} {a : Act} {W : World} {t e : TypeId} {x y : Operand} {n : Nat} (ho : oi.op = .makeSlice t x y) (hx : a.eval x = .int .i64 (n : Int)) (hy : a.eval y = .int .i64 (n : Int)) (ht : P.underlying t = some (.slice e)) (hinfo : (P.info? e).map (fun i => (i.zero, i.size, i.bytes)) = some (some (Value.int .i64 0), 1, 8)) (hn : n < 17592186044416) :
    (execOp a.eval oi).run P W = .ok (.value (.slice (some ⟨W.heap.size, 0, none⟩) n n)) (W.alloc (.cells (madeCells #[Value.int .i64 0] n) e)) := by
  have hr := Kd.run_make_ (P := P) W t e n ht hinfo hn
  simp [execOp, ho, hx, hy, hr]
theorem lb_rows_ {w : World} {base g : Nat} (hg : base ≤ g) (h : w.heap[g]? = some (.cells #[] 22 (0, 0))) : Kd.S (Kd.slice 3 (Kd.int .i64)) 22 w base (fun k => k = g) (.slice (some ⟨g, 0, none⟩) 0 0) [] :=
  Kd.S_bare ⟨fun k hk => by simpa [Value.ownBlock] using hk.symm, [], ⟨by simp, .inr ⟨g, 0, _, rfl, hg, h, Nat.le_refl _, by simp [maxLen], by simp, by simp⟩⟩, Reps.none _ _⟩
def impl_Poset_labels.T1 : Bool × List (List Nat × List Nat) := (true, [([], []), ([], []), ([1], [1]), ([2, 2], [2]), ([], []), ([], []), ([4, 0, 2, 0, 4, 5], [0, 4]), ([5, 3, 6, 0, 1, 2, 3, 4, 5, 6], [3, 5])])
def impl_Poset_labels.B1 : List Nat := [0, 0, 2, 6, 0, 0, 55, 127]
theorem impl_Poset_labels.tab1 : rtab .any (opsOf Try.f53 1) = impl_Poset_labels.T1 := by kernel_rfl
theorem impl_Poset_labels.bits1 : waitsOk impl_Poset_labels.T1.2 impl_Poset_labels.B1 = true := by kernel_rfl
/-- What the region that makes labels' variables has laid, by what is listed. -/
structure LabIn (w : World) (A : Option Addr) (c n gp gm : Nat) (m : Int) (k0 k3 g5 g6 : Nat) (b : Nat → Bool) (w' : World) : Prop where
  B : Below w.heap.size w w'
  p : w'.heap[gp]? = some (.cells #[.slice A n c] 29 (0, 0))
  m : w'.heap[gm]? = some (.cells #[.int .i64 m] 3 (0, 0))
  gm0 : gm < w.heap.size + 2
  h0 : b 0 = true → w.heap.size ≤ k0 ∧ w'.heap[k0]? = some (.cells #[] 22 (0, 0))
  h3 : b 3 = true → w.heap.size + 2 ≤ k3 ∧ w'.heap[k3]? = some (.cells (madeCells #[Value.int .i64 0] n) 3 (0, 0))
  h5 : b 4 = true → w.heap.size ≤ g5 ∧ w'.heap[g5]? = some (.cells #[if b 6 then .slice (some ⟨k0, 0, none⟩) 0 0 else .slice none 0 0] 26 (0, 0))
  h6 : b 5 = true → w.heap.size ≤ g6 ∧ w'.heap[g6]? = some (.cells #[if b 7 then .slice (some ⟨k3, 0, none⟩) n n else .slice none 0 0] 22 (0, 0))
  sz : w.heap.size + 2 ≤ w'.heap.size
section
variable {w w' w2 : World} {A : Option Addr} {c n gp gm k0 k3 g5 g6 k : Nat} {m : Int} {b : Nat → Bool}
theorem LabIn.keep (h : LabIn w A c n gp gm m k0 k3 g5 g6 b w') (hb : Below w'.heap.size w' w2) : LabIn w A c n gp gm m k0 k3 g5 g6 b w2 :=
  ⟨below_step h.B hb, blk_below h.p hb, blk_below h.m hb, h.gm0, fun e => ⟨(h.h0 e).1, blk_below (h.h0 e).2 hb⟩, fun e => ⟨(h.h3 e).1, blk_below (h.h3 e).2 hb⟩, fun e => ⟨(h.h5 e).1, blk_below (h.h5 e).2 hb⟩, fun e => ⟨(h.h6 e).1, blk_below (h.h6 e).2 hb⟩, Nat.le_trans h.sz hb.size⟩
theorem LabIn.u0 (h : LabIn w A c n gp gm m k0 k3 g5 g6 b w') (h6 : b 6 = false) (hg : w.heap.size ≤ k) (hk : w'.heap[k]? = some (.cells #[] 22 (0, 0))) : LabIn w A c n gp gm m k k3 g5 g6 (up b 0) w' :=
  ⟨h.B, h.p, h.m, h.gm0, fun _ => ⟨hg, hk⟩, h.h3, fun e => by have := h.h5 e; rw [h6] at this; show _ ∧ w'.heap[g5]? = some (.cells #[if b 6 then _ else _] _ _); rw [h6]; exact this, h.h6, h.sz⟩
theorem LabIn.u1 (h : LabIn w A c n gp gm m k0 k3 g5 g6 b w') : LabIn w A c n gp gm m k0 k3 g5 g6 (up b 1) w' := ⟨h.B, h.p, h.m, h.gm0, h.h0, h.h3, h.h5, h.h6, h.sz⟩
theorem LabIn.u2 (h : LabIn w A c n gp gm m k0 k3 g5 g6 b w') : LabIn w A c n gp gm m k0 k3 g5 g6 (up b 2) w' := ⟨h.B, h.p, h.m, h.gm0, h.h0, h.h3, h.h5, h.h6, h.sz⟩
theorem LabIn.u3 (h : LabIn w A c n gp gm m k0 k3 g5 g6 b w') (h7 : b 7 = false) (hg : w.heap.size + 2 ≤ k) (hk : w'.heap[k]? = some (.cells (madeCells #[Value.int .i64 0] n) 3 (0, 0))) : LabIn w A c n gp gm m k0 k g5 g6 (up b 3) w' :=
  ⟨h.B, h.p, h.m, h.gm0, h.h0, fun _ => ⟨hg, hk⟩, h.h5, fun e => by have := h.h6 e; rw [h7] at this; show _ ∧ w'.heap[g6]? = some (.cells #[if b 7 then _ else _] _ _); rw [h7]; exact this, h.sz⟩
theorem LabIn.u4 (h : LabIn w A c n gp gm m k0 k3 g5 g6 b w') (h6 : b 6 = false) (hg : w.heap.size ≤ k) (hk : w'.heap[k]? = some (.cells #[.slice none 0 0] 26 (0, 0))) : LabIn w A c n gp gm m k0 k3 k g6 (up b 4) w' :=
  ⟨h.B, h.p, h.m, h.gm0, h.h0, h.h3, fun _ => ⟨hg, by show w'.heap[k]? = some (.cells #[if b 6 then _ else _] _ _); rw [h6]; exact hk⟩, h.h6, h.sz⟩
theorem LabIn.u5 (h : LabIn w A c n gp gm m k0 k3 g5 g6 b w') (h7 : b 7 = false) (hg : w.heap.size ≤ k) (hk : w'.heap[k]? = some (.cells #[.slice none 0 0] 22 (0, 0))) : LabIn w A c n gp gm m k0 k3 g5 k (up b 5) w' :=
  ⟨h.B, h.p, h.m, h.gm0, h.h0, h.h3, h.h5, fun _ => ⟨hg, by show w'.heap[k]? = some (.cells #[if b 7 then _ else _] _ _); rw [h7]; exact hk⟩, h.sz⟩
theorem LabIn.u6 (h : LabIn w A c n gp gm m k0 k3 g5 g6 b w') (h4 : b 4 = true) : LabIn w A c n gp gm m k0 k3 g5 g6 (up b 6) (w'.setCell ⟨g5, 0, none⟩ (.slice (some ⟨k0, 0, none⟩) 0 0)) := by
  obtain ⟨e1, e2⟩ := h.h5 h4
  have n1 : gp ≠ g5 := blk_ne h.p e2 (by decide)
  have n2 : gm ≠ g5 := blk_ne h.m e2 (by decide)
  refine ⟨h.B.setCell e1 _, blk_far h.p n1 _, blk_far h.m n2 _, h.gm0, fun e => ⟨(h.h0 e).1, blk_far (h.h0 e).2 (blk_ne (h.h0 e).2 e2 (by decide)) _⟩, fun e => ⟨(h.h3 e).1, blk_far (h.h3 e).2 (blk_ne (h.h3 e).2 e2 (by decide)) _⟩, fun _ => ⟨e1, ?_⟩, fun e => ⟨(h.h6 e).1, blk_far (h.h6 e).2 (blk_ne (h.h6 e).2 e2 (by decide)) _⟩, by simpa [World.setCell] using h.sz⟩
  simpa [up] using blk_set e2 0 _
theorem LabIn.u7 (h : LabIn w A c n gp gm m k0 k3 g5 g6 b w') (h5 : b 5 = true) (h0 : b 0 = true) : LabIn w A c n gp gm m k0 k3 g5 g6 (up b 7) (w'.setCell ⟨g6, 0, none⟩ (.slice (some ⟨k3, 0, none⟩) n n)) := by
  obtain ⟨e1, e2⟩ := h.h6 h5
  have n1 : gp ≠ g6 := blk_ne h.p e2 (by decide)
  have n2 : gm ≠ g6 := blk_ne h.m e2 (by decide)
  have n3 : k0 ≠ g6 := lb_ne_ (h.h0 h0).2 e2 (by simp)
  refine ⟨h.B.setCell e1 _, blk_far h.p n1 _, blk_far h.m n2 _, h.gm0, fun e => ⟨(h.h0 e).1, blk_far (h.h0 e).2 n3 _⟩, fun e => ⟨(h.h3 e).1, blk_far (h.h3 e).2 (blk_ne (h.h3 e).2 e2 (by decide)) _⟩, fun e => ⟨(h.h5 e).1, blk_far (h.h5 e).2 (blk_ne (h.h5 e).2 e2 (by decide)) _⟩, fun _ => ⟨e1, ?_⟩, by simpa [World.setCell] using h.sz⟩
  simpa [up] using blk_set e2 0 _
end
theorem lab_start {w w' : World} {A : Option Addr} {c gp gm k0 k3 g5 g6 : Nat} {l : List Int} {m : Int} {b : Nat → Bool} (h : LabIn w A c l.length gp gm m k0 k3 g5 g6 b w') (b0 : b 0 = true) (b3 : b 3 = true) (b4 : b 4 = true) (b5 : b 5 = true) (b6 : b 6 = true) (b7 : b 7 = true) (hl : l.length < 17592186044416) :
    LabSt w (w'.alloc (.cells #[.func (.func 92) #[] #[.pointer (some ⟨gp, 0, none⟩), .pointer (some ⟨g5, 0, none⟩), .pointer (some ⟨g6, 0, none⟩), .pointer (some ⟨gm, 0, none⟩), .pointer (some ⟨w'.heap.size, 0, none⟩)]] 92)) (fun k => k ≠ gm) gp g5 g6 gm w'.heap.size A c l m
      (.slice (some ⟨k0, 0, none⟩) 0 0) (.slice (some ⟨k3, 0, none⟩) l.length l.length) [] (List.replicate l.length 0) := by
  obtain ⟨q51, q52⟩ := h.h5 b4
  obtain ⟨q61, q62⟩ := h.h6 b5
  obtain ⟨q01, q02⟩ := h.h0 b0
  obtain ⟨q31, q32⟩ := h.h3 b3
  rw [b6, if_pos rfl] at q52
  rw [b7, if_pos rfl] at q62
  have n1 : k0 ≠ gm := blk_ne q02 h.m (by decide)
  have n2 : k0 ≠ g6 := lb_ne_ q02 q62 (by simp)
  have n3 : k0 ≠ k3 := blk_ne q02 q32 (by decide)
  have hgm := h.gm0
  have hsz := h.sz
  refine ⟨lb_alloc_ h.p _, lb_alloc_ q52 _, lb_alloc_ q62 _, lb_alloc_ h.m _, lb_new_ _ _, Kd.S_mono (lb_rows_ q01 (lb_alloc_ q02 _)) ?_, Kd.R_mono (lb_row_ (by omega) (lb_alloc_ q32 _) (by omega)) ?_, q51, below_alloc h.B _, fun _ h => h, fun k hk => ?_⟩
  · rintro k rfl
    exact ⟨n1, n2, by simpa [Value.ownBlock] using n3⟩
  · rintro k rfl
    show k ≠ gm
    omega
  · rw [lb_size_] at hk
    show k ≠ gm
    omega
def impl_Poset_labels.f (k : Nat) (l : List Int) (m : Int) : Option (List (List Int)) := if l.length < 17592186044416 then (impl_Poset_labels_1.f k l m 0 [] (List.replicate l.length 0)).bind fun st => some st.1 else none
set_option maxRecDepth 100000 in
set_option maxHeartbeats 4000000 in
theorem impl_Poset_labels.calls (k : Nat) (A0_0 : Option Addr) (c0_0 : Nat) (l0_0 : List Int) (a1 : Int) (r1 : List (List Int)) (w : World) (hr0_0 : Kd.C (Kd.int .i64) w A0_0 l0_0.length l0_0) (hc0_0 : l0_0.length ≤ c0_0) (h : impl_Poset_labels.f k l0_0 a1 = some r1) :
    Calls Try.prog 53 #[.agg #[.slice A0_0 l0_0.length c0_0], .int .i64 a1] w fun e w' => ∃ v0_ : Value, e = .returned v0_ ∧ Kd.S (Kd.slice 3 (Kd.int .i64)) 22 w' w.heap.size (fun _ => True) v0_ r1 ∧ Below w.heap.size w w' := by
  have hu29 := Try.underlying29
  unfold impl_Poset_labels.f at h
  split at h
  case isFalse => cases h
  rename_i hl
  replace h := Option.bind_eq_some_iff.mp h
  obtain ⟨⟨o1, f1⟩, ho, h⟩ := h
  obtain rfl := Option.some.inj h
  have HO := Aside0.mk ho
  have HL := Aside0.mk hl
  have HR := Aside0.mk hr0_0
  have HC := Aside0.mk hc0_0
  clear ho hl hr0_0 hc0_0 h
  go_enter Try.func53, Try.ntmps53
  go_wp2_with fail
  have hn1 := lb_new_ w (.cells #[.slice A0_0 l0_0.length c0_0] 29)
  have hn2 := lb_new_ (w.alloc (.cells #[.slice A0_0 l0_0.length c0_0] 29)) (.cells #[.int .i64 a1] 3)
  have hn3 := lb_alloc_ hn1 (.cells #[.int .i64 a1] 3)
  have hs1 := lb_size_ w (.cells #[.slice A0_0 l0_0.length c0_0] 29)
  have hs2 := lb_size_ (w.alloc (.cells #[.slice A0_0 l0_0.length c0_0] 29)) (.cells #[.int .i64 a1] 3)
  rw [hs1] at hn2 hs2
  have ST := Aside0.mk (show LabIn w A0_0 c0_0 l0_0.length w.heap.size (w.heap.size + 1) a1 0 0 0 0 (fun _ => false) ((w.alloc (.cells #[.slice A0_0 l0_0.length c0_0] 29)).alloc (.cells #[.int .i64 a1] 3)).drew from
    ⟨below_drew (below_alloc (below_alloc (Below.refl _ _) _) _), hn3, hn2, by omega, fun h => absurd h (by decide), fun h => absurd h (by decide), fun h => absurd h (by decide), fun h => absurd h (by decide), by show w.heap.size + 2 ≤ ((w.alloc _).alloc _).heap.size; rw [hs2]; omega⟩)
  clear hn1 hn2 hn3 hs1 hs2
  refine start_ (n := 8) (S := fun w' => True) (ds := []) #[false, false, false, false, false, false, false, false] (by kernel_rfl) rfl rfl trivial (fun hHeld => ?_)
  refine with_tabW impl_Poset_labels.tab1 impl_Poset_labels.bits1 (fun HT_ HW_ => ?_)
  generalize ((w.alloc (.cells #[.slice A0_0 l0_0.length c0_0] 29)).alloc (.cells #[.int .i64 a1] 3)).drew = w1 at ST ⊢
  generalize hgp : w.heap.size = gp at ST ⊢
  generalize hgm : gp + 1 = gm at ST ⊢
  subst hgp
  refine inv_at [0, 1, 2, 3, 4, 5, 6, 7] (fun a0_ b a w' => ∃ (k0 k3 g5 g6 : Nat), a = putSel a0_ b [(0, 8, .slice (some ⟨k0, 0, none⟩) 0 0), (1, 9, .agg #[.slice A0_0 l0_0.length c0_0]), (2, 10, .int .i64 (l0_0.length : Int)), (3, 11, .slice (some ⟨k3, 0, none⟩) l0_0.length l0_0.length), (4, 5, .pointer (some ⟨g5, 0, none⟩)), (5, 6, .pointer (some ⟨g6, 0, none⟩))] ∧ LabIn w A0_0 c0_0 l0_0.length w.heap.size gm a1 k0 k3 g5 g6 b w') HT_.out HW_.out (by kernel_rfl) (by kernel_rfl) ?_ ?_ ?_
  · exact ⟨0, 0, 0, 0, by simp only [putSel, Bool.false_eq_true, if_false], ST.out⟩
  · clear ST
    refine steps_cons ?_ (steps_cons ?_ (steps_cons ?_ (steps_cons ?_ (steps_cons ?_ (steps_cons ?_ (steps_cons ?_ (steps_cons ?_ steps_nil)))))))
    · rintro b a w' ⟨k0, k3, g5, g6, ha, hI⟩ hb_ hon hoff
      refine ⟨_, rfl, fun K hK => ?_⟩
      have HI := Aside0.mk hI
      replace ha := Aside0.mk ha
      clear hI
      refine value_ (w1 := w'.alloc (.cells #[] 22)) (v := .slice (some ⟨w'.heap.size, 0, none⟩) 0 0) (by rfl) rfl ?_ ?_
      · go_simp
        try rfl
      refine hK.out _ _ ⟨w'.heap.size, k3, g5, g6, by rw [ha.out]; exact putSel_upk 0 hb_ rfl rfl rfl, ?_⟩
      exact (HI.out.keep (below_alloc (Below.refl _ _) _)).u0 (hoff 6 (by kernel_rfl)) HI.out.B.size (lb_new_ _ _)
    · rintro b a w' ⟨k0, k3, g5, g6, ha, hI⟩ hb_ hon hoff
      refine ⟨_, rfl, fun K hK => ?_⟩
      have HI := Aside0.mk hI
      have e2 : a.tmps[2]? = some (.pointer (some ⟨w.heap.size, 0, none⟩)) := by rw [ha]; exact (putSel_off rfl).trans rfl
      replace ha := Aside0.mk ha
      have hz1 : w'.cell? ⟨w.heap.size, 0, none⟩ = some (.slice A0_0 l0_0.length c0_0) := (blk_cell hI.p 0).trans rfl
      clear hI
      refine value_ (w1 := w') (v := .agg #[.slice A0_0 l0_0.length c0_0]) (by rfl) rfl ?_ ?_
      · go_simp
        try rfl
      refine hK.out _ _ ⟨k0, k3, g5, g6, by rw [ha.out]; exact putSel_upk 1 hb_ rfl rfl rfl, HI.out.u1⟩
    · rintro b a w' ⟨k0, k3, g5, g6, ha, hI⟩ hb_ hon hoff
      refine ⟨_, rfl, fun K hK => ?_⟩
      have HI := Aside0.mk hI
      have e9 : a.tmps[9]? = some (.agg #[.slice A0_0 l0_0.length c0_0]) := by rw [ha]; exact putSel_on (e := (1, 9, .agg #[.slice A0_0 l0_0.length c0_0])) 1 rfl rfl (hon 1 (by kernel_rfl)) rfl
      replace ha := Aside0.mk ha
      clear hI
      refine goes_ Try.func52 (by kernel_rfl) rfl #[.agg #[.slice A0_0 l0_0.length c0_0]] (by rfl) rfl rfl (by simp only [List.map_toArray, List.map_cons, List.map_nil, eval_of e9]) ?_
      refine (impl_Poset_n.calls _ _ l0_0 (l0_0.length : Int) _ ?s1 ?s2 rfl).mono ?_
      case s1 => exact Kd.C_below HR.out HI.out.B
      case s2 => exact HC.out
      rintro e w2 ⟨rfl, hb⟩
      refine ⟨_, rfl, ?_⟩
      refine hK.out _ _ ⟨k0, k3, g5, g6, by rw [ha.out]; exact putSel_upk 2 hb_ rfl rfl rfl, (HI.out.keep hb).u2⟩
    · rintro b a w' ⟨k0, k3, g5, g6, ha, hI⟩ hb_ hon hoff
      refine ⟨_, rfl, fun K hK => ?_⟩
      have HI := Aside0.mk hI
      have e10 : a.tmps[10]? = some (.int .i64 (l0_0.length : Int)) := by rw [ha]; exact putSel_on (e := (2, 10, .int .i64 (l0_0.length : Int))) 2 rfl rfl (hon 2 (by kernel_rfl)) rfl
      replace ha := Aside0.mk ha
      clear hI
      refine value_ (w1 := w'.alloc (.cells (madeCells #[Value.int .i64 0] l0_0.length) 3)) (v := .slice (some ⟨w'.heap.size, 0, none⟩) l0_0.length l0_0.length) (by rfl) rfl ?_ ?_
      · exact lb_make_ rfl (eval_of e10) (eval_of e10) Try.underlying22 info3 HL.out
      refine hK.out _ _ ⟨k0, w'.heap.size, g5, g6, by rw [ha.out]; exact putSel_upk 3 hb_ rfl rfl rfl, ?_⟩
      exact (HI.out.keep (below_alloc (Below.refl _ _) _)).u3 (hoff 7 (by kernel_rfl)) HI.out.sz (lb_new_ _ _)
    · rintro b a w' ⟨k0, k3, g5, g6, ha, hI⟩ hb_ hon hoff
      refine ⟨_, rfl, fun K hK => ?_⟩
      have HI := Aside0.mk hI
      replace ha := Aside0.mk ha
      clear hI
      refine value_ (w1 := w'.alloc (.cells #[.slice none 0 0] 26)) (v := .pointer (some ⟨w'.heap.size, 0, none⟩)) (by rfl) rfl ?_ ?_
      · go_simp
        try rfl
      refine hK.out _ _ ⟨k0, k3, w'.heap.size, g6, by rw [ha.out]; exact putSel_upk 4 hb_ rfl rfl rfl, ?_⟩
      exact (HI.out.keep (below_alloc (Below.refl _ _) _)).u4 (hoff 6 (by kernel_rfl)) HI.out.B.size (lb_new_ _ _)
    · rintro b a w' ⟨k0, k3, g5, g6, ha, hI⟩ hb_ hon hoff
      refine ⟨_, rfl, fun K hK => ?_⟩
      have HI := Aside0.mk hI
      replace ha := Aside0.mk ha
      clear hI
      refine value_ (w1 := w'.alloc (.cells #[.slice none 0 0] 22)) (v := .pointer (some ⟨w'.heap.size, 0, none⟩)) (by rfl) rfl ?_ ?_
      · go_simp
        try rfl
      refine hK.out _ _ ⟨k0, k3, g5, w'.heap.size, by rw [ha.out]; exact putSel_upk 5 hb_ rfl rfl rfl, ?_⟩
      exact (HI.out.keep (below_alloc (Below.refl _ _) _)).u5 (hoff 7 (by kernel_rfl)) HI.out.B.size (lb_new_ _ _)
    · rintro b a w' ⟨k0, k3, g5, g6, ha, hI⟩ hb_ hon hoff
      refine ⟨_, rfl, fun K hK => ?_⟩
      have HI := Aside0.mk hI
      have e5 : a.tmps[5]? = some (.pointer (some ⟨g5, 0, none⟩)) := by rw [ha]; exact putSel_on (e := (4, 5, .pointer (some ⟨g5, 0, none⟩))) 4 rfl rfl (hon 4 (by kernel_rfl)) rfl
      have e8 : a.tmps[8]? = some (.slice (some ⟨k0, 0, none⟩) 0 0) := by rw [ha]; exact putSel_on (e := (0, 8, .slice (some ⟨k0, 0, none⟩) 0 0)) 0 rfl rfl (hon 0 (by kernel_rfl)) rfl
      replace ha := Aside0.mk ha
      have hblk := (hI.h5 (hon 4 (by kernel_rfl))).2
      have hz1 : w'.cell? ⟨g5, 0, none⟩ = some _ := (blk_cell hblk 0).trans rfl
      have hf1 : w'.frozen? ⟨g5, 0, none⟩ = false := blk_frozen hblk 0
      clear hI hblk
      refine skip_ (w1 := w'.setCell ⟨g5, 0, none⟩ (.slice (some ⟨k0, 0, none⟩) 0 0)) (by rfl) rfl ?_ ?_
      · go_simp
        try rfl
      refine hK.out _ _ ⟨k0, k3, g5, g6, by rw [ha.out]; exact putSel_none (v := undef) rfl, HI.out.u6 (hon 4 (by kernel_rfl))⟩
    · rintro b a w' ⟨k0, k3, g5, g6, ha, hI⟩ hb_ hon hoff
      refine ⟨_, rfl, fun K hK => ?_⟩
      have HI := Aside0.mk hI
      have e6 : a.tmps[6]? = some (.pointer (some ⟨g6, 0, none⟩)) := by rw [ha]; exact putSel_on (e := (5, 6, .pointer (some ⟨g6, 0, none⟩))) 5 rfl rfl (hon 5 (by kernel_rfl)) rfl
      have e11 : a.tmps[11]? = some (.slice (some ⟨k3, 0, none⟩) l0_0.length l0_0.length) := by rw [ha]; exact putSel_on (e := (3, 11, .slice (some ⟨k3, 0, none⟩) l0_0.length l0_0.length)) 3 rfl rfl (hon 3 (by kernel_rfl)) rfl
      replace ha := Aside0.mk ha
      have hblk := (hI.h6 (hon 5 (by kernel_rfl))).2
      have hz1 : w'.cell? ⟨g6, 0, none⟩ = some _ := (blk_cell hblk 0).trans rfl
      have hf1 : w'.frozen? ⟨g6, 0, none⟩ = false := blk_frozen hblk 0
      clear hI hblk
      refine skip_ (w1 := w'.setCell ⟨g6, 0, none⟩ (.slice (some ⟨k3, 0, none⟩) l0_0.length l0_0.length)) (by rfl) rfl ?_ ?_
      · go_simp
        try rfl
      refine hK.out _ _ ⟨k0, k3, g5, g6, by rw [ha.out]; exact putSel_none (v := undef) rfl, HI.out.u7 (hon 5 (by kernel_rfl)) (hon 0 (by kernel_rfl))⟩
  · rintro b a w' hall ⟨k0, k3, g5, g6, ha, hI⟩
    have hb0_ := hall 0 (by kernel_rfl)
    have hb1_ := hall 1 (by kernel_rfl)
    have hb2_ := hall 2 (by kernel_rfl)
    have hb3_ := hall 3 (by kernel_rfl)
    have hb4_ := hall 4 (by kernel_rfl)
    have hb5_ := hall 5 (by kernel_rfl)
    have hb6_ := hall 6 (by kernel_rfl)
    have hb7_ := hall 7 (by kernel_rfl)
    subst ha
    simp only [putSel, hb0_, hb1_, hb2_, hb3_, hb4_, hb5_, if_true, Act.put, List.setIfInBounds_toArray, List.set_cons_zero, List.set_cons_succ]
    have HST := Aside0.mk (lab_start hI hb0_ hb3_ hb4_ hb5_ hb6_ hb7_ HL.out)
    clear hall hb0_ hb1_ hb2_ hb3_ hb4_ hb5_ hb6_ hb7_ hI
    go_wp2_with fail
    generalize w'.alloc (.cells #[.func (.func 92) #[] #[.pointer (some ⟨w.heap.size, 0, none⟩), .pointer (some ⟨g5, 0, none⟩), .pointer (some ⟨g6, 0, none⟩), .pointer (some ⟨gm, 0, none⟩), .pointer (some ⟨w'.heap.size, 0, none⟩)]] 92) = W2 at HST ⊢
    generalize w'.heap.size = gf at HST ⊢
    refine (impl_Poset_labels_1.calls w w.heap.size g5 g6 gm gf _ _ l0_0 a1 k3 _ _ HR.out HC.out k 0 W2 _ _ _ _ _ _ HST.out HO.out).mono ?_
    rintro e w6 ⟨rfl, vo2, hst6, hk6⟩
    have HST6 := Aside0.mk hst6
    clear hst6 hk6 HST
    have hz6 : w6.cell? ⟨g5, 0, none⟩ = some vo2 := (blk_cell HST6.out.ho 0).trans rfl
    obtain ⟨Ao2, co2, eo2⟩ := Kd.S_slice HST6.out.so
    subst eo2
    go_wp2_with fail
    go_ret
    exact ⟨_, rfl, Kd.S_mono HST6.out.so (fun _ _ => trivial), HST6.out.below⟩

/-! ### impl_AllArrays: function 10 -/
def impl_AllArrays.f (k : Nat) (l0_0 : List Int) (a1 : Int) : Option ((List (List Int)) × Bool) := (impl_IsPoset.f k l0_0).bind fun t176 => (if t176 = true then ((impl_within.f a1 0 4).bind fun t177 => (if t177 = true then ((impl_Poset_n.f l0_0).bind fun t178 => (if t178 > 6 then (some (([] : List (List Int)), false)) else ((impl_Poset_labels.f k l0_0 a1).bind fun t179 => (some (t179, true))))) else (some (([] : List (List Int)), false)))) else (some (([] : List (List Int)), false)))
set_option maxHeartbeats 8000000 in
set_option maxRecDepth 100000 in
theorem impl_AllArrays.calls (k : Nat) (A0_0 : Option Addr) (c0_0 : Nat) (l0_0 : List Int) (a1 : Int) (r1 : List (List Int)) (r2 : Bool) (w : World) (hr0_0 : Kd.C (Kd.int .i64) w A0_0 l0_0.length l0_0) (hc0_0 : l0_0.length ≤ c0_0) (h : impl_AllArrays.f k l0_0 a1 = some (r1, r2)) :
    Calls Try.prog 10 #[.agg #[.slice A0_0 l0_0.length c0_0], .int .i64 a1] w fun e w' => ∃ v0_ : Value, e = .returned (.tuple #[v0_, .bool r2]) ∧ Kd.S (Kd.slice 3 (Kd.int .i64)) 22 w' w.heap.size (fun _ => True) v0_ r1 ∧ Below w.heap.size w w' := by
  have hu29 := Try.underlying29
  have HR0_0 := Aside0.mk hr0_0
  have HC0_0 := Aside0.mk hc0_0
  clear hr0_0 hc0_0
  have HB := Aside0.mk (Below.refl w.heap.size w)
  have H : ((impl_IsPoset.f k l0_0).bind fun t176 => (if t176 = true then ((impl_within.f a1 0 4).bind fun t177 => (if t177 = true then ((impl_Poset_n.f l0_0).bind fun t178 => (if t178 > 6 then (some (([] : List (List Int)), false)) else ((impl_Poset_labels.f k l0_0 a1).bind fun t179 => (some (t179, true))))) else (some (([] : List (List Int)), false)))) else (some (([] : List (List Int)), false)))) = some (r1, r2) := h
  clear h
  replace H := Option.bind_eq_some_iff.mp H
  obtain ⟨t176, A30, H⟩ := H
  replace H : (if t176 = true then ((impl_within.f a1 0 4).bind fun t177 => (if t177 = true then ((impl_Poset_n.f l0_0).bind fun t178 => (if t178 > 6 then (some (([] : List (List Int)), false)) else ((impl_Poset_labels.f k l0_0 a1).bind fun t179 => (some (t179, true))))) else (some (([] : List (List Int)), false)))) else (some (([] : List (List Int)), false))) = some (r1, r2) := H
  have A3 := Aside0.mk A30
  clear A30
  by_cases c4 : t176 = true
  · subst c4
    have H1 : ((impl_within.f a1 0 4).bind fun t177 => (if t177 = true then ((impl_Poset_n.f l0_0).bind fun t178 => (if t178 > 6 then (some (([] : List (List Int)), false)) else ((impl_Poset_labels.f k l0_0 a1).bind fun t179 => (some (t179, true))))) else (some (([] : List (List Int)), false)))) = some (r1, r2) := by rw [if_pos rfl] at H; exact H
    clear H
    have H := H1
    clear H1
    replace H := Option.bind_eq_some_iff.mp H
    obtain ⟨t177, A50, H⟩ := H
    replace H : (if t177 = true then ((impl_Poset_n.f l0_0).bind fun t178 => (if t178 > 6 then (some (([] : List (List Int)), false)) else ((impl_Poset_labels.f k l0_0 a1).bind fun t179 => (some (t179, true))))) else (some (([] : List (List Int)), false))) = some (r1, r2) := H
    have A5 := Aside0.mk A50
    clear A50
    by_cases c6 : t177 = true
    · subst c6
      have H1 : ((impl_Poset_n.f l0_0).bind fun t178 => (if t178 > 6 then (some (([] : List (List Int)), false)) else ((impl_Poset_labels.f k l0_0 a1).bind fun t179 => (some (t179, true))))) = some (r1, r2) := by rw [if_pos rfl] at H; exact H
      clear H
      have H := H1
      clear H1
      replace H := Option.bind_eq_some_iff.mp H
      obtain ⟨t178, A70, H⟩ := H
      replace H : (if t178 > 6 then (some (([] : List (List Int)), false)) else ((impl_Poset_labels.f k l0_0 a1).bind fun t179 => (some (t179, true)))) = some (r1, r2) := H
      have A7 := Aside0.mk A70
      clear A70
      by_cases c8 : t178 > 6
      · rw [if_pos c8] at H
        have c8b0 : decide (6 < t178) = true := decide_eq_true c8
        clear c8
        simp only [Option.some.injEq, Prod.mk.injEq] at H
        obtain ⟨rfl, rfl⟩ := H
        go_enter Try.func10, Try.ntmps10
        go_wp2_with (first | ((with_reducible refine gate_dst (N := 2) rfl ?_); refine box_event ?hg (N := 2) ?hd (cs := #[.slice A0_0 l0_0.length c0_0]) (t := 29) ?hr ?_; (case hd => rfl); (case hg => rfl); (case hr => first | (go_simp; done) | (go_simp; rfl)); intro gb175 hg w9 hbox hb; have n0_ := Aside0.mk (below_step (by repeat (first | (with_reducible first | exact HB.out | apply below_alloc | apply pw_below_drewN | apply below_drew1) | exact HB.out)) hb); have n1_ := Aside0.mk (hbox); have n2_ := Aside0.mk ((by rw [hg]; exact (below_size (by repeat (first | (with_reducible first | exact HB.out | apply below_alloc | apply pw_below_drewN | apply below_drew1) | exact HB.out))) : w.heap.size ≤ gb175)); have n3_ := Aside0.mk ((by rw [hg]; exact (below_size (by repeat (first | (with_reducible first | exact HB.out | apply below_alloc | apply pw_below_drewN | apply below_drew1) | exact HB.out))) : w.heap.size ≤ gb175)); clear HB; have HB := n0_; have BK175 := n1_; have GW175 := n2_; have GE175 := n3_; clear n0_ n1_ n2_ n3_; clear hb hbox hg; have hcz10_0 : w9.cell? ⟨gb175, 0, none⟩ = some (.slice A0_0 l0_0.length c0_0) := (blk_cell BK175.out 0).trans rfl; have hfz10_0 := blk_frozen BK175.out 0) | ((with_reducible refine gate_callee (f := 50) rfl ?_); refine goesL_ (some 7) rfl rfl Try.func50 (by kernel_rfl) rfl #[.agg #[.slice A0_0 l0_0.length c0_0]] rfl (by (try simp only [List.map_toArray, List.map_cons, List.map_nil]); first | done | rfl | (simp only [List.length_drop, List.length_take]; rfl)) ?_; (with_reducible refine (impl_IsPoset.calls k _ _ l0_0 true _ ?side1 ?side2 A3.out).mono ?_); (case side1 => repeat (first | exact (Kd.C_below HR0_0.out HB.out) | (with_reducible refine Kd.C_alloc ?_ _) | (with_reducible refine Kd.C_drewN ?_ _) | (with_reducible refine Kd.C_drew ?_))); (case side2 => exact HC0_0.out); rintro e w11 ⟨rfl, hb⟩; refine ⟨_, rfl, ?_⟩; have n0_ := Aside0.mk (blk_below (g := gb175) (o := .cells #[.slice A0_0 l0_0.length c0_0] 29 (0, 0)) (by (with_reducible repeat (first | refine blk_drewN ?_ _ | refine blk_drew ?_ | refine blk_alloc ?_ _)); exact BK175.out) hb); have n1_ := Aside0.mk (below_step (by repeat (first | (with_reducible first | exact HB.out | apply below_alloc | apply pw_below_drewN | apply below_drew1 | refine below_set ?_ GE175.out) | exact HB.out)) hb); clear BK175; clear HB; have BK175 := n0_; have HB := n1_; clear n0_ n1_; (try clear hb); (try clear hb2); (try clear hk); (try clear hi)) | (go_at_call 51; (with_reducible refine (impl_within.calls a1 0 4 true _ A5.out).mono ?_); rintro e w' ⟨rfl, ⟨nd, rfl⟩⟩; have hcz12_0 : w11.cell? ⟨gb175, 0, none⟩ = some (.slice A0_0 l0_0.length c0_0) := (blk_cell BK175.out 0).trans rfl; have hfz12_0 := blk_frozen BK175.out 0) | (go_at_call 52; (with_reducible refine (impl_Poset_n.calls _ _ l0_0 t178 _ ?side1 ?side2 A7.out).mono ?_); (case side1 => repeat (first | exact (Kd.C_below HR0_0.out (by repeat (first | (with_reducible first | exact HB.out | apply below_alloc | apply pw_below_drewN | apply below_drew1 | refine below_set ?_ GE175.out) | exact HB.out))) | (with_reducible refine Kd.C_alloc ?_ _) | (with_reducible refine Kd.C_drewN ?_ _) | (with_reducible refine Kd.C_drew ?_))); (case side2 => exact HC0_0.out); rintro e w13 ⟨rfl, hb⟩; have n0_ := Aside0.mk (blk_below (g := gb175) (o := .cells #[.slice A0_0 l0_0.length c0_0] 29 (0, 0)) (by (with_reducible repeat (first | refine blk_drewN ?_ _ | refine blk_drew ?_ | refine blk_alloc ?_ _)); exact BK175.out) hb); have n1_ := Aside0.mk (below_step (by repeat (first | (with_reducible first | exact HB.out | apply below_alloc | apply pw_below_drewN | apply below_drew1 | refine below_set ?_ GE175.out) | exact HB.out)) hb); clear BK175; clear HB; have BK175 := n0_; have HB := n1_; clear n0_ n1_; (try clear hb); (try clear hb2); (try clear hk); (try clear hi)))
        go_ret2
        exact ⟨_, by first | rfl | (simp [errW_none, errW_some] <;> rfl) | (simp [*, errW_none, errW_some] <;> rfl), by first | exact Kd.S_nil _ _ _ _ _ | exact Kd.N_nil _ _ _ _ _ | exact Kd.V_nil _ _ _ _ _ | exact Kd.Q_nil _ _ _ _ _ | exact Kd.R_nil _ _ _ _ _, by repeat (first | (with_reducible first | exact HB.out | apply below_alloc | apply pw_below_drewN | apply below_drew1 | refine below_set ?_ GE175.out) | exact HB.out)⟩
      · rw [if_neg c8] at H
        have c8b0 : decide (6 < t178) = false := decide_eq_false c8
        clear c8
        replace H := Option.bind_eq_some_iff.mp H
        obtain ⟨t179, A140, H⟩ := H
        replace H : (some (t179, true)) = some (r1, r2) := H
        have A14 := Aside0.mk A140
        clear A140
        simp only [Option.some.injEq, Prod.mk.injEq] at H
        obtain ⟨rfl, rfl⟩ := H
        go_enter Try.func10, Try.ntmps10
        go_wp2_with (first | ((with_reducible refine gate_dst (N := 2) rfl ?_); refine box_event ?hg (N := 2) ?hd (cs := #[.slice A0_0 l0_0.length c0_0]) (t := 29) ?hr ?_; (case hd => rfl); (case hg => rfl); (case hr => first | (go_simp; done) | (go_simp; rfl)); intro gb175 hg w15 hbox hb; have n0_ := Aside0.mk (below_step (by repeat (first | (with_reducible first | exact HB.out | apply below_alloc | apply pw_below_drewN | apply below_drew1) | exact HB.out)) hb); have n1_ := Aside0.mk (hbox); have n2_ := Aside0.mk ((by rw [hg]; exact (below_size (by repeat (first | (with_reducible first | exact HB.out | apply below_alloc | apply pw_below_drewN | apply below_drew1) | exact HB.out))) : w.heap.size ≤ gb175)); have n3_ := Aside0.mk ((by rw [hg]; exact (below_size (by repeat (first | (with_reducible first | exact HB.out | apply below_alloc | apply pw_below_drewN | apply below_drew1) | exact HB.out))) : w.heap.size ≤ gb175)); clear HB; have HB := n0_; have BK175 := n1_; have GW175 := n2_; have GE175 := n3_; clear n0_ n1_ n2_ n3_; clear hb hbox hg; have hcz16_0 : w15.cell? ⟨gb175, 0, none⟩ = some (.slice A0_0 l0_0.length c0_0) := (blk_cell BK175.out 0).trans rfl; have hfz16_0 := blk_frozen BK175.out 0) | ((with_reducible refine gate_callee (f := 50) rfl ?_); refine goesL_ (some 7) rfl rfl Try.func50 (by kernel_rfl) rfl #[.agg #[.slice A0_0 l0_0.length c0_0]] rfl (by (try simp only [List.map_toArray, List.map_cons, List.map_nil]); first | done | rfl | (simp only [List.length_drop, List.length_take]; rfl)) ?_; (with_reducible refine (impl_IsPoset.calls k _ _ l0_0 true _ ?side1 ?side2 A3.out).mono ?_); (case side1 => repeat (first | exact (Kd.C_below HR0_0.out HB.out) | (with_reducible refine Kd.C_alloc ?_ _) | (with_reducible refine Kd.C_drewN ?_ _) | (with_reducible refine Kd.C_drew ?_))); (case side2 => exact HC0_0.out); rintro e w17 ⟨rfl, hb⟩; refine ⟨_, rfl, ?_⟩; have n0_ := Aside0.mk (blk_below (g := gb175) (o := .cells #[.slice A0_0 l0_0.length c0_0] 29 (0, 0)) (by (with_reducible repeat (first | refine blk_drewN ?_ _ | refine blk_drew ?_ | refine blk_alloc ?_ _)); exact BK175.out) hb); have n1_ := Aside0.mk (below_step (by repeat (first | (with_reducible first | exact HB.out | apply below_alloc | apply pw_below_drewN | apply below_drew1 | refine below_set ?_ GE175.out) | exact HB.out)) hb); clear BK175; clear HB; have BK175 := n0_; have HB := n1_; clear n0_ n1_; (try clear hb); (try clear hb2); (try clear hk); (try clear hi)) | (go_at_call 51; (with_reducible refine (impl_within.calls a1 0 4 true _ A5.out).mono ?_); rintro e w' ⟨rfl, ⟨nd, rfl⟩⟩; have hcz18_0 : w17.cell? ⟨gb175, 0, none⟩ = some (.slice A0_0 l0_0.length c0_0) := (blk_cell BK175.out 0).trans rfl; have hfz18_0 := blk_frozen BK175.out 0) | (go_at_call 52; (with_reducible refine (impl_Poset_n.calls _ _ l0_0 t178 _ ?side1 ?side2 A7.out).mono ?_); (case side1 => repeat (first | exact (Kd.C_below HR0_0.out (by repeat (first | (with_reducible first | exact HB.out | apply below_alloc | apply pw_below_drewN | apply below_drew1 | refine below_set ?_ GE175.out) | exact HB.out))) | (with_reducible refine Kd.C_alloc ?_ _) | (with_reducible refine Kd.C_drewN ?_ _) | (with_reducible refine Kd.C_drew ?_))); (case side2 => exact HC0_0.out); rintro e w19 ⟨rfl, hb⟩; have n0_ := Aside0.mk (blk_below (g := gb175) (o := .cells #[.slice A0_0 l0_0.length c0_0] 29 (0, 0)) (by (with_reducible repeat (first | refine blk_drewN ?_ _ | refine blk_drew ?_ | refine blk_alloc ?_ _)); exact BK175.out) hb); have n1_ := Aside0.mk (below_step (by repeat (first | (with_reducible first | exact HB.out | apply below_alloc | apply pw_below_drewN | apply below_drew1 | refine below_set ?_ GE175.out) | exact HB.out)) hb); clear BK175; clear HB; have BK175 := n0_; have HB := n1_; clear n0_ n1_; (try clear hb); (try clear hb2); (try clear hk); (try clear hi); have hcz20_0 : w19.cell? ⟨gb175, 0, none⟩ = some (.slice A0_0 l0_0.length c0_0) := (blk_cell BK175.out 0).trans rfl; have hfz20_0 := blk_frozen BK175.out 0) | ((with_reducible refine gate_callee (f := 53) rfl ?_); refine goesL_ (some 21) rfl rfl Try.func53 (by kernel_rfl) rfl #[.agg #[.slice A0_0 l0_0.length c0_0], .int .i64 a1] rfl (by (try simp only [List.map_toArray, List.map_cons, List.map_nil]); first | done | rfl | (simp only [List.length_drop, List.length_take]; rfl)) ?_; (with_reducible refine (impl_Poset_labels.calls k _ _ l0_0 a1 t179 _ ?side1 ?side2 A14.out).mono ?_); (case side1 => repeat (first | exact (Kd.C_below HR0_0.out HB.out) | (with_reducible refine Kd.C_alloc ?_ _) | (with_reducible refine Kd.C_drewN ?_ _) | (with_reducible refine Kd.C_drew ?_))); (case side2 => exact HC0_0.out); rintro e w21 ⟨v180, rfl, ho0, hb⟩; refine ⟨_, rfl, ?_⟩; have n0_ := Aside0.mk (Kd.S_lower ho0 (below_size (by repeat (first | (with_reducible first | exact HB.out | apply below_alloc | apply pw_below_drewN | apply below_drew1 | refine below_set ?_ GE175.out) | exact HB.out)))); have n1_ := Aside0.mk (blk_below (g := gb175) (o := .cells #[.slice A0_0 l0_0.length c0_0] 29 (0, 0)) (by (with_reducible repeat (first | refine blk_drewN ?_ _ | refine blk_drew ?_ | refine blk_alloc ?_ _)); exact BK175.out) hb); have n2_ := Aside0.mk (below_step (by repeat (first | (with_reducible first | exact HB.out | apply below_alloc | apply pw_below_drewN | apply below_drew1 | refine below_set ?_ GE175.out) | exact HB.out)) hb); clear BK175; clear HB; have HO181 := n0_; have BK175 := n1_; have HB := n2_; clear n0_ n1_ n2_; (try clear hb); (try clear hb2); (try clear hk); (try clear hi); (try clear ho0)))
        go_ret2
        exact ⟨_, by first | rfl | (simp [errW_none, errW_some] <;> rfl) | (simp [*, errW_none, errW_some] <;> rfl), by (with_reducible repeat (first | apply Kd.S_alloc | apply Kd.S_drewN | apply Kd.S_drew)); exact HO181.out, by repeat (first | (with_reducible first | exact HB.out | apply below_alloc | apply pw_below_drewN | apply below_drew1 | refine below_set ?_ GE175.out) | exact HB.out)⟩
    · replace c6 := Bool.eq_false_iff.mpr c6
      subst c6
      have H1 : (some (([] : List (List Int)), false)) = some (r1, r2) := by rw [if_neg (show ¬ (false = true) by decide)] at H; exact H
      clear H
      have H := H1
      clear H1
      simp only [Option.some.injEq, Prod.mk.injEq] at H
      obtain ⟨rfl, rfl⟩ := H
      go_enter Try.func10, Try.ntmps10
      go_wp2_with (first | ((with_reducible refine gate_dst (N := 2) rfl ?_); refine box_event ?hg (N := 2) ?hd (cs := #[.slice A0_0 l0_0.length c0_0]) (t := 29) ?hr ?_; (case hd => rfl); (case hg => rfl); (case hr => first | (go_simp; done) | (go_simp; rfl)); intro gb175 hg w22 hbox hb; have n0_ := Aside0.mk (below_step (by repeat (first | (with_reducible first | exact HB.out | apply below_alloc | apply pw_below_drewN | apply below_drew1) | exact HB.out)) hb); have n1_ := Aside0.mk (hbox); have n2_ := Aside0.mk ((by rw [hg]; exact (below_size (by repeat (first | (with_reducible first | exact HB.out | apply below_alloc | apply pw_below_drewN | apply below_drew1) | exact HB.out))) : w.heap.size ≤ gb175)); have n3_ := Aside0.mk ((by rw [hg]; exact (below_size (by repeat (first | (with_reducible first | exact HB.out | apply below_alloc | apply pw_below_drewN | apply below_drew1) | exact HB.out))) : w.heap.size ≤ gb175)); clear HB; have HB := n0_; have BK175 := n1_; have GW175 := n2_; have GE175 := n3_; clear n0_ n1_ n2_ n3_; clear hb hbox hg; have hcz23_0 : w22.cell? ⟨gb175, 0, none⟩ = some (.slice A0_0 l0_0.length c0_0) := (blk_cell BK175.out 0).trans rfl; have hfz23_0 := blk_frozen BK175.out 0) | ((with_reducible refine gate_callee (f := 50) rfl ?_); refine goesL_ (some 7) rfl rfl Try.func50 (by kernel_rfl) rfl #[.agg #[.slice A0_0 l0_0.length c0_0]] rfl (by (try simp only [List.map_toArray, List.map_cons, List.map_nil]); first | done | rfl | (simp only [List.length_drop, List.length_take]; rfl)) ?_; (with_reducible refine (impl_IsPoset.calls k _ _ l0_0 true _ ?side1 ?side2 A3.out).mono ?_); (case side1 => repeat (first | exact (Kd.C_below HR0_0.out HB.out) | (with_reducible refine Kd.C_alloc ?_ _) | (with_reducible refine Kd.C_drewN ?_ _) | (with_reducible refine Kd.C_drew ?_))); (case side2 => exact HC0_0.out); rintro e w24 ⟨rfl, hb⟩; refine ⟨_, rfl, ?_⟩; have n0_ := Aside0.mk (blk_below (g := gb175) (o := .cells #[.slice A0_0 l0_0.length c0_0] 29 (0, 0)) (by (with_reducible repeat (first | refine blk_drewN ?_ _ | refine blk_drew ?_ | refine blk_alloc ?_ _)); exact BK175.out) hb); have n1_ := Aside0.mk (below_step (by repeat (first | (with_reducible first | exact HB.out | apply below_alloc | apply pw_below_drewN | apply below_drew1 | refine below_set ?_ GE175.out) | exact HB.out)) hb); clear BK175; clear HB; have BK175 := n0_; have HB := n1_; clear n0_ n1_; (try clear hb); (try clear hb2); (try clear hk); (try clear hi)) | (go_at_call 51; (with_reducible refine (impl_within.calls a1 0 4 false _ A5.out).mono ?_); rintro e w' ⟨rfl, ⟨nd, rfl⟩⟩))
      go_ret2
      exact ⟨_, by first | rfl | (simp [errW_none, errW_some] <;> rfl) | (simp [*, errW_none, errW_some] <;> rfl), by first | exact Kd.S_nil _ _ _ _ _ | exact Kd.N_nil _ _ _ _ _ | exact Kd.V_nil _ _ _ _ _ | exact Kd.Q_nil _ _ _ _ _ | exact Kd.R_nil _ _ _ _ _, by repeat (first | (with_reducible first | exact HB.out | apply below_alloc | apply pw_below_drewN | apply below_drew1 | refine below_set ?_ GE175.out) | exact HB.out)⟩
  · replace c4 := Bool.eq_false_iff.mpr c4
    subst c4
    have H1 : (some (([] : List (List Int)), false)) = some (r1, r2) := by rw [if_neg (show ¬ (false = true) by decide)] at H; exact H
    clear H
    have H := H1
    clear H1
    simp only [Option.some.injEq, Prod.mk.injEq] at H
    obtain ⟨rfl, rfl⟩ := H
    go_enter Try.func10, Try.ntmps10
    go_wp2_with (first | ((with_reducible refine gate_dst (N := 2) rfl ?_); refine box_event ?hg (N := 2) ?hd (cs := #[.slice A0_0 l0_0.length c0_0]) (t := 29) ?hr ?_; (case hd => rfl); (case hg => rfl); (case hr => first | (go_simp; done) | (go_simp; rfl)); intro gb175 hg w25 hbox hb; have n0_ := Aside0.mk (below_step (by repeat (first | (with_reducible first | exact HB.out | apply below_alloc | apply pw_below_drewN | apply below_drew1) | exact HB.out)) hb); have n1_ := Aside0.mk (hbox); have n2_ := Aside0.mk ((by rw [hg]; exact (below_size (by repeat (first | (with_reducible first | exact HB.out | apply below_alloc | apply pw_below_drewN | apply below_drew1) | exact HB.out))) : w.heap.size ≤ gb175)); have n3_ := Aside0.mk ((by rw [hg]; exact (below_size (by repeat (first | (with_reducible first | exact HB.out | apply below_alloc | apply pw_below_drewN | apply below_drew1) | exact HB.out))) : w.heap.size ≤ gb175)); clear HB; have HB := n0_; have BK175 := n1_; have GW175 := n2_; have GE175 := n3_; clear n0_ n1_ n2_ n3_; clear hb hbox hg; have hcz26_0 : w25.cell? ⟨gb175, 0, none⟩ = some (.slice A0_0 l0_0.length c0_0) := (blk_cell BK175.out 0).trans rfl; have hfz26_0 := blk_frozen BK175.out 0) | ((with_reducible refine gate_callee (f := 50) rfl ?_); refine goesL_ (some 7) rfl rfl Try.func50 (by kernel_rfl) rfl #[.agg #[.slice A0_0 l0_0.length c0_0]] rfl (by (try simp only [List.map_toArray, List.map_cons, List.map_nil]); first | done | rfl | (simp only [List.length_drop, List.length_take]; rfl)) ?_; (with_reducible refine (impl_IsPoset.calls k _ _ l0_0 false _ ?side1 ?side2 A3.out).mono ?_); (case side1 => repeat (first | exact (Kd.C_below HR0_0.out HB.out) | (with_reducible refine Kd.C_alloc ?_ _) | (with_reducible refine Kd.C_drewN ?_ _) | (with_reducible refine Kd.C_drew ?_))); (case side2 => exact HC0_0.out); rintro e w27 ⟨rfl, hb⟩; refine ⟨_, rfl, ?_⟩; have n0_ := Aside0.mk (blk_below (g := gb175) (o := .cells #[.slice A0_0 l0_0.length c0_0] 29 (0, 0)) (by (with_reducible repeat (first | refine blk_drewN ?_ _ | refine blk_drew ?_ | refine blk_alloc ?_ _)); exact BK175.out) hb); have n1_ := Aside0.mk (below_step (by repeat (first | (with_reducible first | exact HB.out | apply below_alloc | apply pw_below_drewN | apply below_drew1 | refine below_set ?_ GE175.out) | exact HB.out)) hb); clear BK175; clear HB; have BK175 := n0_; have HB := n1_; clear n0_ n1_; (try clear hb); (try clear hb2); (try clear hk); (try clear hi)))
    go_ret2
    exact ⟨_, by first | rfl | (simp [errW_none, errW_some] <;> rfl) | (simp [*, errW_none, errW_some] <;> rfl), by first | exact Kd.S_nil _ _ _ _ _ | exact Kd.N_nil _ _ _ _ _ | exact Kd.V_nil _ _ _ _ _ | exact Kd.Q_nil _ _ _ _ _ | exact Kd.R_nil _ _ _ _ _, by repeat (first | (with_reducible first | exact HB.out | apply below_alloc | apply pw_below_drewN | apply below_drew1 | refine below_set ?_ GE175.out) | exact HB.out)⟩

end Go.Proofs.Ytcajljndcddldaa.PDa
