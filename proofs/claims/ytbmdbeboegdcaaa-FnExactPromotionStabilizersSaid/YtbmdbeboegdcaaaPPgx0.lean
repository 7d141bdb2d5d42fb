-- Written for this claim by wip/gprint.py, out of the translation and of hand-written parts.
import Derived.Test.YtbmdbeboegdcaaaProg
import Derived.Below
import Derived.Deep.Draws
import Derived.Deep.AppendLies
import Derived.Maps.AppendAt
import Derived.OwnWalk
import Derived.Laws.BytesArg
import Derived.Laws.MakeOwn
import Derived.Laws.OwnMore
import Derived.Deep.OwnRows
import Derived.Tactics
import Derived.Lib.ConvBytes
import Derived.Laws.Slices
import Derived.WalkKit
import Derived.KernelRfl
import Derived.RowKit3
import Derived.Deep.LoopGhost
import Derived.Deep.QuietTactic
import Derived.BigQuiet
import Derived.WideLaws
import Derived.Deep.DeepCutAuto
import Derived.Deep.CutBlock
import Derived.Deep.RegionHeld3
import Derived.Laws.Rows
import Derived.Lib.AppendStr
import Derived.ArgAppend
import Derived.Laws.IdiomCopy
import Derived.OrdersHeld
import Derived.Laws.BitsLemmas
import Derived.RowKit
import Derived.Lib.SliceRun
import Derived.Deep.WholeRow
import Derived.Laws.CopyOwn
import Derived.Maps.OwnSet
import Derived.Maps.Views
import Derived.WideKeyArr2
import Derived.DeepKeys4
import Derived.Great.BuildSlice
import Derived.Shelf.Sort.Plain
import Derived.Shelf.Lay
import Derived.Sort.OwnSortedInts
import Derived.Test.YtbmdbeboegdcaaaWWords
import Derived.Test.YtbmdbeboegdcaaaWLast
import Derived.Test.YtbmdbeboegdcaaaWTab
import Derived.Test.YtbmdbeboegdcaaaWFour
import Derived.Test.YtbmdbeboegdcaaaWQPut
import Derived.Test.YtbmdbeboegdcaaaWApart
import Derived.Test.YtbmdbeboegdcaaaWArr
import Derived.Test.YtbmdbeboegdcaaaWZeros
import Derived.Test.YtbmdbeboegdcaaaWFoot
import Derived.Test.YtbmdbeboegdcaaaWKept
import Derived.Test.YtbmdbeboegdcaaaWShare
import Derived.Test.YtbmdbeboegdcaaaWN
import Derived.Test.YtbmdbeboegdcaaaWFootNe
import Derived.Test.YtbmdbeboegdcaaaWAt
import Derived.Test.YtbmdbeboegdcaaaWEqStruct
import Derived.Test.YtbmdbeboegdcaaaWRepsOne
import Derived.Test.YtbmdbeboegdcaaaWInv
import Derived.Test.YtbmdbeboegdcaaaWInvWords
import Derived.Test.YtbmdbeboegdcaaaWGuard
import Derived.Test.YtbmdbeboegdcaaaWNEv
import Derived.Test.YtbmdbeboegdcaaaWMore
namespace Go.Proofs.Ytbmdbeboegdcaaa.PPg
open Go.RowKit Go.Proofs.YtbmdbeboegdcaaaW.PrintWords Go.Proofs.YtbmdbeboegdcaaaW.PrintLast Go.Proofs.YtbmdbeboegdcaaaW.PrintMore
attribute [local go_sem] max2_int min2_int max_two min_two max_three min_three max_four min_four   -- for this text's walks alone
set_option linter.unusedVariables false
set_option linter.unusedSimpArgs false



def errW : Option Int → Value
  | none => .nilIface
  | some c => .iface 0 (.int .i64 c)
theorem errW_none : errW none = .nilIface := rfl
theorem errW_some (c : Int) : errW (some c) = .iface 0 (.int .i64 c) := rfl

/-! ### A function value that is called -/
/-- The value is a function of the program's; called with these arguments it ends so. -/
def Applies (P : Program) (v : Value) (args : Array Value) (W : World) (Q : Ending → World → Prop) : Prop :=
  ∃ (N : FuncId) (fn : Func) (first caps : Array Value), v = .func (.func N) first caps ∧ P.funcs[N]? = some fn ∧ (fn.name == "runtime.NumGoroutine") = false ∧ fn.body.isSome = true ∧ Calls P N (first ++ args ++ caps) W Q
theorem Applies.mono {P : Program} {v : Value} {args : Array Value} {W : World} {Q Q' : Ending → World → Prop} (h : Applies P v args W Q) (hq : ∀ e w', Q e w' → Q' e w') : Applies P v args W Q' := by
  obtain ⟨N, fn, first, caps, h1, h2, h3, h4, h5⟩ := h
  exact ⟨N, fn, first, caps, h1, h2, h3, h4, h5.mono hq⟩
theorem below_trans_ {w w1 W : World} (h : Below w.heap.size w w1) (h1 : Below w1.heap.size w1 W) : Below w.heap.size w W := h.trans (h1.mono h.size)
section
variable {P : Program} {ops : Array Oper} {rest : List Oper} {o : Oper} {a : Act} {Q : Exit → Act → World → Prop} {W : World}
theorem gate_calleev {t : Tmp} {ags : Array Operand} {ts : Array TypeId} (_ho : o.op = .call { callee := .value (.tmp t), args := ags, argTypes := ts }) (h : wpList P ops Q (o :: rest) a W) : wpList P ops Q (o :: rest) a W := h
/-- A call of a function value in a plain region. -/
theorem goesF_ {rest : List Oper} {oi : Oper} {a : Act} {w : World} (N : Option Tmp) (hd : oi.dst = N) (hg : oi.guard = none) {v : Value} {t : Tmp} {ags : Array Operand} {ts : Array TypeId} (hv : a.eval (.tmp t) = v) (args : Array Value)
    (hop : oi.op = .call { callee := .value (.tmp t), args := ags, argTypes := ts }) (hargs : ags.map a.eval = args)
    (h : Applies P v args w fun e w' => ∃ u, e = .returned u ∧ wpList P ops Q rest (a.put N u) w') : wpList P ops Q (oi :: rest) a w := by
  obtain ⟨f, fn, first, caps, rfl, hf, hname, hb, hc⟩ := h
  refine wpList_plain hg fun K hK => ?_
  have he := Go.Proofs.YtbmdbeboegdcaaaW.PrintLast.enters_ hf hname hb (first ++ args ++ caps) w
  have hrun : (execOp a.eval oi).run P w = .ok (.enter f (first ++ args ++ caps)) w := by
    unfold execOp
    simp [hop, resolve, Deferred.ofValue, invoke, hv, hargs]
    simpa using he
  unfold Oper.wp
  rw [hrun, Oper.upon_enter]
  refine hc.mono fun e w'' hh => ?_
  obtain ⟨u, rfl, hk⟩ := hh
  subst hd
  exact hK _ _ hk
end
theorem cap_ne {w : World} {g1 g2 t1 t2 : Nat} {c1 c2 : Array Value} {f1 f2 : Nat × Nat} (h1 : w.heap[g1]? = some (.cells c1 t1 f1)) (h2 : w.heap[g2]? = some (.cells c2 t2 f2)) (hne : t1 ≠ t2) : g1 ≠ g2 := by
  rintro rfl
  rw [h1] at h2
  injection h2 with h2
  injection h2 with _ h2
  exact hne h2
/-- What a function with rounds answers, with rounds enough. -/
noncomputable def Lim {α : Type} (g : Nat → Option α) : Option α := by
  classical
  exact if h : ∃ r k, g k = some r then some h.choose else none
theorem Lim_get {α : Type} {g : Nat → Option α} {r : α} (h : Lim g = some r) : ∃ k, g k = some r := by
  unfold Lim at h
  split at h
  · rename_i hh
    obtain rfl := Option.some.inj h
    exact hh.choose_spec
  · cases h
theorem Lim_of {α : Type} {g : Nat → Option α} {r : α} (hm : ∀ k, Go.Proofs.YtbmdbeboegdcaaaW.PrintWords.LeO (g k) (g (k + 1))) {k : Nat} (h : g k = some r) : Lim g = some r := by
  have up : ∀ d k r, g k = some r → g (k + d) = some r := by
    intro d
    induction d with
    | zero => intro k r h; exact h
    | succ d ih => intro k r h; exact hm _ _ (ih k r h)
  have hh : ∃ r k, g k = some r := ⟨r, k, h⟩
  unfold Lim
  rw [dif_pos hh]
  obtain ⟨k', hk'⟩ := hh.choose_spec
  have h1 := up k' k r h
  have h2 := up k k' _ hk'
  rw [Nat.add_comm] at h2
  exact congrArg some (Option.some.inj (h2.symm.trans h1))

/-- What a function value of type 27 answers, wherever it is called from w on. -/
def IsFn27 (P : Program) (w : World) (v : Value) (F : (Int → Int → Option Bool)) : Prop := ∀ W, Below w.heap.size w W → ∀ (a0 : Int) (a1 : Int) (r : Bool), F a0 a1 = some r → Applies P v #[.int .i64 a0, .int .i64 a1] W (fun e w' => e = .returned (.bool r) ∧ Below W.heap.size W w')
theorem IsFn27.below {P : Program} {w w1 : World} {v : Value} {F : (Int → Int → Option Bool)} (h : IsFn27 P w v F) (hb : Below w.heap.size w w1) : IsFn27 P w1 v F := fun W hW => h W (below_trans_ hb hW)
theorem IsFn27.calls {P : Program} {w : World} {v : Value} {F : (Int → Int → Option Bool)} (h : IsFn27 P w v F) (a0 : Int) (a1 : Int) (r : Bool) (W : World) (hB : Below w.heap.size w W) (hF : F a0 a1 = some r) : Applies P v #[.int .i64 a0, .int .i64 a1] W (fun e w' => e = .returned (.bool r) ∧ Below W.heap.size W w') := h W hB a0 a1 r hF

/-- What a function value of type 81 answers, wherever it is called from w on. -/
def IsFn81 (P : Program) (w : World) (v : Value) (F : (Int → Option Bool)) : Prop := ∀ W, Below w.heap.size w W → ∀ (a0 : Int) (r : Bool), F a0 = some r → Applies P v #[.int .i64 a0] W (fun e w' => e = .returned (.bool r) ∧ Below W.heap.size W w')
theorem IsFn81.below {P : Program} {w w1 : World} {v : Value} {F : (Int → Option Bool)} (h : IsFn81 P w v F) (hb : Below w.heap.size w w1) : IsFn81 P w1 v F := fun W hW => h W (below_trans_ hb hW)
theorem IsFn81.calls {P : Program} {w : World} {v : Value} {F : (Int → Option Bool)} (h : IsFn81 P w v F) (a0 : Int) (r : Bool) (W : World) (hB : Below w.heap.size w W) (hF : F a0 = some r) : Applies P v #[.int .i64 a0] W (fun e w' => e = .returned (.bool r) ∧ Below W.heap.size W w') := h W hB a0 r hF

theorem info3 : (Try.prog.info? 3).map (fun i => (i.zero, i.size, i.bytes)) = some (some (.int .i64 0), 1, 8) := by kernel_rfl
theorem info22 : (Try.prog.info? 22).map (fun i => (i.zero, i.size, i.bytes)) = some (some (.slice none 0 0), 1, 24) := by kernel_rfl
-- the values' own types
def rd_L1 (xs : List (List Int)) (i : Int) : (List Int) := xs.getD i.toNat ([] : List Int)
theorem at_L1 {w : World} {A : Option Addr} {n : Nat} {xs : List (List Int)} (h : Kd.C (Kd.slice 3 (Kd.int .i64)) w A n xs) (i : Int) (h0 : 0 ≤ i) (h1 : i < n) : ∃ ad A0 c0, A = some ad ∧ w.cell? (ad.add i.toNat) = some (.slice A0 (rd_L1 xs i).length c0) ∧ (rd_L1 xs i).length ≤ c0 ∧ (Kd.int .i64).C w A0 (rd_L1 xs i).length (rd_L1 xs i) := by
  obtain ⟨ad, c, e, _, hK, hc0⟩ := Kd.C_get h ([] : List Int) i h0 h1
  have hc : ∀ j u, c[j]? = some u → w.cell? (ad.add (i.toNat * 1 + j)) = some u := hc0
  obtain ⟨A0, c0, rfl, l0, g0⟩ := hK
  exact ⟨ad, A0, c0, e, by have hq := hc 0 _ rfl; rwa [Nat.mul_one, Nat.add_zero] at hq, l0, g0⟩

def rd_L2 (xs : List (List (List Int))) (i : Int) : (List (List Int)) := xs.getD i.toNat ([] : List (List Int))
theorem at_L2 {w : World} {A : Option Addr} {n : Nat} {xs : List (List (List Int))} (h : Kd.C (Kd.slice 22 (Kd.slice 3 (Kd.int .i64))) w A n xs) (i : Int) (h0 : 0 ≤ i) (h1 : i < n) : ∃ ad A0 c0, A = some ad ∧ w.cell? (ad.add i.toNat) = some (.slice A0 (rd_L2 xs i).length c0) ∧ (rd_L2 xs i).length ≤ c0 ∧ (Kd.slice 3 (Kd.int .i64)).C w A0 (rd_L2 xs i).length (rd_L2 xs i) := by
  obtain ⟨ad, c, e, _, hK, hc0⟩ := Kd.C_get h ([] : List (List Int)) i h0 h1
  have hc : ∀ j u, c[j]? = some u → w.cell? (ad.add (i.toNat * 1 + j)) = some u := hc0
  obtain ⟨A0, c0, rfl, l0, g0⟩ := hK
  exact ⟨ad, A0, c0, e, by have hq := hc 0 _ rfl; rwa [Nat.mul_one, Nat.add_zero] at hq, l0, g0⟩

end Go.Proofs.Ytbmdbeboegdcaaa.PPg
