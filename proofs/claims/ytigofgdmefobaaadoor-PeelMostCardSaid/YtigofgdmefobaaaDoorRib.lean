/- Columns of a ribbon as an array of truth values: what the program's operations on such arrays come to. -/
import Derived.Test.YtigofgdmefobaaaDoorProg
import Derived.WalkKit
import Derived.OwnWalk
import Derived.Below
import Derived.Deep.WholeRow
import Derived.Deep.MidRow
import Derived.KernelRfl
set_option linter.unusedVariables false
set_option linter.unusedSimpArgs false
namespace Go.Proofs.YtigofgdmefobaaaDoor.Peel
open Go.RowKit

/-- An array of 72 truth values. -/
def rl (r : Nat → Bool) : List Value := (List.range 72).map fun i => .bool (r i)
def rv (r : Nat → Bool) : Array Value := (rl r).toArray
theorem rl_length (r : Nat → Bool) : (rl r).length = 72 := by simp [rl]
theorem rv_size (r : Nat → Bool) : (rv r).size = 72 := by simp [rv, rl]
theorem rv_get (r : Nat → Bool) (i : Nat) (h : i < 72) : (rv r)[i]? = some (.bool (r i)) := by simp [rv, rl, h]
theorem rv_set (r : Nat → Bool) (i : Nat) (b : Bool) : (rv r).setIfInBounds i (.bool b) = rv (fun k => if k = i then b else r k) := by
  apply Array.ext_getElem?
  intro j
  rw [Array.getElem?_setIfInBounds]
  rcases Nat.lt_or_ge j 72 with hj | hj
  · rw [rv_get _ j hj, rv_get _ j hj, rv_size]
    by_cases e : i = j
    · subst e; simp [hj]
    · have e' : ¬ j = i := fun h => e h.symm
      simp [e, e']
  · rw [Array.getElem?_eq_none (by rw [rv_size]; omega), Array.getElem?_eq_none (by rw [rv_size]; omega), rv_size]
    by_cases e : i = j
    · subst e; simp; omega
    · simp [e]
theorem rv_one (r : Nat → Bool) : (rv r).all (·.oneCell') = true := by simp [rv, rl, Value.oneCell']
theorem rv_congr {r s : Nat → Bool} (h : ∀ i, i < 72 → r i = s i) : rv r = rv s := by
  unfold rv rl
  congr 1
  apply List.map_congr_left
  intro i hi
  rw [h i (by simpa using hi)]
theorem rv_ext {r s : Nat → Bool} (h : rv r = rv s) (i : Nat) (hi : i < 72) : r i = s i := by
  have := congrArg (fun a => a[i]?) h
  simp only [rv_get _ i hi] at this
  simpa using this
def none72 : Nat → Bool := fun _ => false

theorem infoRib : (Tryd.prog.info? 86).map (fun i => (i.zero, i.size)) = some (some (.agg (rv none72)), 72) := by kernel_rfl
theorem zeroRib (w : World) : (zeroValue 86).run Tryd.prog w = .ok (.agg (rv none72)) w := (zero_of_info infoRib).1 w
theorem zeroCells : Tryd.zeroCells86 = rv none72 := by kernel_rfl
theorem sizeRib : (Tryd.prog.info? 86).map (·.size) = some 72 := (zero_of_info infoRib).2
theorem undRib : Tryd.prog.underlying 86 = some (.array 72 4) := by kernel_rfl
attribute [irreducible] rv rl

/-- A whole array read out of its block. -/
theorem load_rib {w : World} {g : Nat} {r : Nat → Bool} (h : w.heap[g]? = some (.cells (rv r) 86 (0, 0))) :
    (Instr.loadAt 86 (.pointer (some ⟨g, 0, none⟩))).run Tryd.prog w = .ok (.agg (rv r)) w := by
  simp only [Instr.loadAt, Instr.sureAddr, Sem.run_bind, Sem.run_pure, Result.andThen]
  exact run_loadVar_row w g _ _ _ (0, 0) _ h undRib rfl (by rw [rv_size]; exact sizeRib)
/-- A whole array stored into its block. -/
theorem store_rib {w : World} {g : Nat} {r s : Nat → Bool} (h : w.heap[g]? = some (.cells (rv r) 86 (0, 0))) :
    (Instr.storeAt 86 (.pointer (some ⟨g, 0, none⟩)) (.agg (rv s))).run Tryd.prog w = .ok () (w.setRow g (rv s)) := by
  simp only [Instr.storeAt, Instr.sureAddr, Sem.run_bind, Sem.run_pure, Result.andThen]
  exact run_storeVar_row _ _ _ _ _ _ h (by rw [rv_size]; exact sizeRib) (by rw [rv_size, rv_size]) (rv_one s)
/-- An element of an array value. -/
theorem index_rib {w : World} {r : Nat → Bool} {i : Int} (h0 : 0 ≤ i) (h1 : i < 72) :
    (Instr.index 86 (.agg (rv r)) (.int .i64 i)).run Tryd.prog w = .ok (.bool (r i.toNat)) w := by
  have hs : (sizeOf 4).run Tryd.prog w = .ok 1 w := by kernel_rfl
  have ha : (isAgg 4).run Tryd.prog w = .ok false w := by kernel_rfl
  have hg := rv_get r i.toNat (by omega)
  simp [Instr.index, asIntOf, Sem.run_bind, run_underlying undRib, Result.andThen_ok, h0, h1, hs, part, ha, hg]
/-- Do two arrays hold the same? -/
def same72 (r s : Nat → Bool) : Bool := (List.range 72).all fun i => r i == s i
theorem same72_iff (r s : Nat → Bool) : same72 r s = true ↔ ∀ i, i < 72 → r i = s i := by simp [same72]
theorem part_rib {w : World} (r : Nat → Bool) (i : Nat) (h : i < 72) : (part 4 (rv r) i).run Tryd.prog w = .ok (.bool (r i)) w := by
  have ha : (isAgg 4).run Tryd.prog w = .ok false w := by kernel_rfl
  simp [part, ha, rv_get r i h]
theorem equal_rib_loop {w : World} (r s : Nat → Bool) (d : Nat) (l : List Nat) (hl : ∀ i ∈ l, i < 72) :
    Sem.run Tryd.prog (forIn l ((none, ()) : Option Bool × Unit) (fun i _ => do
        let a ← part 4 (rv r) (i * 1)
        let b ← part 4 (rv s) (i * 1)
        let e ← Op.equalIn (d + 1) 4 a b
        if (!e) = true then pure (.done (some false, ())) else pure (.yield (none, ()))) : Sem (Option Bool × Unit)) w
      = .ok (if l.all (fun i => r i == s i) then (none, ()) else (some false, ())) w := by
  induction l with
  | nil => simp
  | cons i l ih =>
    have hi := hl i (by simp)
    have hb := run_equalIn_bool' (P := Tryd.prog) w d 4 (r i) (s i) (by kernel_rfl)
    simp only [List.forIn_cons, Sem.run_bind, Nat.mul_one, part_rib _ _ hi, Result.andThen_ok, hb, Sem.run_ite, Sem.run_pure, List.all_cons]
    by_cases h : (r i == s i) = true
    · simp only [h, Bool.not_true, Bool.false_eq_true, if_false, Result.andThen_ok, Bool.true_and]
      have := ih (fun j hj => hl j (by simp [hj]))
      simpa using this
    · have h' : (r i == s i) = false := by simpa using h
      simp [h']
theorem equal_rib {w : World} (r s : Nat → Bool) : (Op.equal 86 (.agg (rv r)) (.agg (rv s))).run Tryd.prog w = .ok (same72 r s) w := by
  have hs : (sizeOf 4).run Tryd.prog w = .ok 1 w := by kernel_rfl
  have hl := equal_rib_loop (w := w) r s 9998 (List.range' 0 72) (by intro i hi; simp at hi; omega)
  have he : (List.range' 0 72).all (fun i => r i == s i) = same72 r s := by rw [← List.range_eq_range']; rfl
  unfold Op.equal Op.maxDepth
  rw [Op.equalIn]
  simp only [Sem.run_bind, run_underlying undRib, Result.andThen_ok, hs]
  rw [Std.Legacy.Range.forIn_eq_forIn_range']
  simp only [Std.Legacy.Range.size, Nat.sub_zero, Nat.add_sub_cancel, Nat.div_one]
  rw [hl, he]
  cases same72 r s <;> simp
theorem neq_rib {w : World} (x y : Operand) (r s : Nat → Bool) : Sem.run Tryd.prog (do eqGuard .neq 86 x y (.agg (rv r)) (.agg (rv s)); binOp .neq 86 (.agg (rv r)) (.agg (rv s))) w = .ok (.bool (!same72 r s)) w := by
  have hg : (eqGuard .neq 86 x y (.agg (rv r)) (.agg (rv s))).run Tryd.prog w = .ok () w := by
    have h2 : Tryd.prog.eqGuardType Tryd.prog.depth 86 = false := by kernel_rfl
    simp [eqGuard, h2]
  simp [Sem.run_bind, hg, binOp, equal_rib]
theorem heap_alloc_if (w : World) (o : Obj) (i : Nat) : (w.alloc o).heap[i]? = if i = w.heap.size then some o else w.heap[i]? := by
  show (w.heap.push o)[i]? = _
  rw [Array.getElem?_push]
theorem heap_setRow_if (w : World) (g : Nat) (old cs : Array Value) (t : TypeId) (i : Nat) (h : w.heap[g]? = some (.cells old t (0, 0))) : (w.setRow g cs).heap[i]? = if i = g then some (.cells cs t (0, 0)) else w.heap[i]? := by
  by_cases e : i = g
  · subst e; rw [if_pos rfl]; exact setRow_heap w i old cs t (0, 0) h
  · rw [if_neg e]; exact setRow_other w g i cs e
/-- One block has been written, nothing else. -/
structure Only (g : Nat) (w w1 : World) : Prop where
  os : w1.os = w.os
  tape : w1.tape = w.tape
  output : w1.output = w.output
  size : w1.heap.size = w.heap.size
  block : ∀ i, i ≠ g → w1.heap[i]? = w.heap[i]?
theorem Only.below {g B : Nat} {w w1 : World} (h : Only g w w1) (hB : B ≤ g) : Below B w w1 :=
  ⟨h.os, h.tape, h.output, by rw [h.size]; exact Nat.le_refl _, fun i hi => h.block i (by omega)⟩
theorem only_setRow (w : World) (g : Nat) (cs : Array Value) : Only g w (w.setRow g cs) :=
  ⟨rfl, rfl, rfl, size_setRow _ _ _, fun i hi => setRow_other w g i cs hi⟩
section
variable {ops : Array Oper} {rest : List Oper} {o : Oper} {a : Act} {Q : Exit → Act → World → Prop} {W : World}
theorem gate_load (T : TypeId) {x : Operand} (_ho : o.op = .load T x) (h : wpList Tryd.prog ops Q (o :: rest) a W) : wpList Tryd.prog ops Q (o :: rest) a W := h
theorem gate_store (T : TypeId) {p x : Operand} (_ho : o.op = .store T p x) (h : wpList Tryd.prog ops Q (o :: rest) a W) : wpList Tryd.prog ops Q (o :: rest) a W := h
theorem gate_alloc (T : TypeId) (_ho : o.op = .alloc T) (h : wpList Tryd.prog ops Q (o :: rest) a W) : wpList Tryd.prog ops Q (o :: rest) a W := h
theorem gate_box (T : TypeId) {x : Operand} (_ho : o.op = .box T x) (h : wpList Tryd.prog ops Q (o :: rest) a W) : wpList Tryd.prog ops Q (o :: rest) a W := h
/-- An array of a ribbon is made. -/
theorem ev_alloc_rib (hgd : o.guard = none) (ho : o.op = .alloc 86)
    (h : wpList Tryd.prog ops Q rest (a.put o.dst (.pointer (some ⟨W.heap.size, 0, none⟩))) (W.alloc (.cells (rv none72) 86))) : wpList Tryd.prog ops Q (o :: rest) a W := by
  refine wpList_plain hgd fun K hK => ?_
  have hr : (Instr.alloc 86 true (.tuple #[])).run Tryd.prog W = .ok (.pointer (some ⟨W.heap.size, 0, none⟩)) (W.alloc (.cells (rv none72) 86)) := by
    simp [Instr.alloc, Sem.run_bind, zeroRib, newVar, newRow, Value.cells, run_newObj_alloc, zeroCells]
  unfold Oper.wp execOp
  simp only [ho, Sem.run_bind, Sem.run_pure, Result.andThen_ok, hr]
  exact hK _ _ h
/-- An array is put into a block of its own. -/
theorem ev_box_rib (hgd : o.guard = none) (x : Operand) (ho : o.op = .box 86 x) (r : Nat → Bool) (hx : a.eval x = .agg (rv r))
    (h : wpList Tryd.prog ops Q rest (a.put o.dst (.pointer (some ⟨W.heap.size, 0, none⟩))) (W.alloc (.cells (rv r) 86))) : wpList Tryd.prog ops Q (o :: rest) a W := by
  refine wpList_plain hgd fun K hK => ?_
  have hr : (Instr.box 86 (.agg (rv r))).run Tryd.prog W = .ok (.pointer (some ⟨W.heap.size, 0, none⟩)) (W.alloc (.cells (rv r) 86)) := by
    simp [Instr.box, Sem.run_bind, newVar, newRow, Value.cells, run_newObj_alloc]
  unfold Oper.wp execOp
  simp only [ho, hx, Sem.run_bind, Sem.run_pure, Result.andThen_ok, hr]
  exact hK _ _ h
theorem ev_load_rib (hgd : o.guard = none) (x : Operand) (ho : o.op = .load 86 x) (g : Nat) (hx : a.eval x = .pointer (some ⟨g, 0, none⟩)) (r : Nat → Bool)
    (hg : W.heap[g]? = some (.cells (rv r) 86 (0, 0)))
    (h : wpList Tryd.prog ops Q rest (a.put o.dst (.agg (rv r))) W) : wpList Tryd.prog ops Q (o :: rest) a W := by
  refine wpList_plain hgd fun K hK => ?_
  unfold Oper.wp execOp
  simp only [ho, hx, Sem.run_bind, Sem.run_pure, Result.andThen_ok, load_rib hg]
  exact hK _ _ h
theorem ev_store_rib (hgd : o.guard = none) (hd : o.dst = none) (p x : Operand) (ho : o.op = .store 86 p x) (g : Nat) (hp : a.eval p = .pointer (some ⟨g, 0, none⟩)) (r s : Nat → Bool)
    (hx : a.eval x = .agg (rv s)) (hg : W.heap[g]? = some (.cells (rv r) 86 (0, 0)))
    (h : wpList Tryd.prog ops Q rest a (W.setRow g (rv s))) : wpList Tryd.prog ops Q (o :: rest) a W := by
  refine wpList_plain hgd fun K hK => ?_
  unfold Oper.wp execOp
  simp only [ho, hp, hx, Sem.run_bind, Sem.run_pure, Result.andThen_ok, store_rib (s := s) hg]
  show K (a.put o.dst undef) _
  rw [hd]
  exact hK _ _ h
end
end Go.Proofs.YtigofgdmefobaaaDoor.Peel
