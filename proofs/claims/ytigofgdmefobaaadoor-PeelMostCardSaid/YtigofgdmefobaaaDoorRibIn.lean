/- The arms of ribbons within a fence (the body of a loop over a function). -/
import Derived.Test.YtigofgdmefobaaaDoorRib
import Derived.OwnWalkIn
set_option linter.unusedVariables false
set_option linter.unusedSimpArgs false
namespace Go.Proofs.YtigofgdmefobaaaDoor.Peel
open Go.RowKit
section
variable {F : Fence} {n : Nat} {ops : Array Oper} {rest : List Oper} {o : Oper} {a : Act} {Q : Exit → Act → World → Prop} {W : World}
theorem gate_load_in (T : TypeId) {x : Operand} (_ho : o.op = .load T x) (h : wpListIn F n Tryd.prog ops Q (o :: rest) a W) : wpListIn F n Tryd.prog ops Q (o :: rest) a W := h
theorem gate_store_in (T : TypeId) {p x : Operand} (_ho : o.op = .store T p x) (h : wpListIn F n Tryd.prog ops Q (o :: rest) a W) : wpListIn F n Tryd.prog ops Q (o :: rest) a W := h
theorem gate_alloc_in (T : TypeId) (_ho : o.op = .alloc T) (h : wpListIn F n Tryd.prog ops Q (o :: rest) a W) : wpListIn F n Tryd.prog ops Q (o :: rest) a W := h
/-- An array of a ribbon is made. -/
theorem ev_alloc_rib_in (hgd : o.guard = none) (ho : o.op = .alloc 86)
    (h : wpListIn F n Tryd.prog ops Q rest (a.put o.dst (.pointer (some ⟨W.heap.size, 0, none⟩))) (W.alloc (.cells (rv none72) 86))) : wpListIn F n Tryd.prog ops Q (o :: rest) a W := by
  refine wpListIn_plain hgd fun K hK => ?_
  have hr : (Instr.alloc 86 true (.tuple #[])).run Tryd.prog W = .ok (.pointer (some ⟨W.heap.size, 0, none⟩)) (W.alloc (.cells (rv none72) 86)) := by
    simp [Instr.alloc, Sem.run_bind, zeroRib, newVar, newRow, Value.cells, run_newObj_alloc, zeroCells]
  unfold Oper.wpIn
  refine ⟨by simp [Oper.about, ho], ?_⟩
  rw [Oper.semAt_plain F _ _ (by rw [ho]; intro c hc'; cases hc')]
  unfold execOp
  simp only [ho, Sem.run_bind, Sem.run_pure, Result.andThen_ok, hr]
  exact hK _ _ h
theorem ev_load_rib_in (hgd : o.guard = none) (x : Operand) (ho : o.op = .load 86 x) (g : Nat) (hx : a.eval x = .pointer (some ⟨g, 0, none⟩)) (r : Nat → Bool)
    (hg : W.heap[g]? = some (.cells (rv r) 86 (0, 0)))
    (h : wpListIn F n Tryd.prog ops Q rest (a.put o.dst (.agg (rv r))) W) : wpListIn F n Tryd.prog ops Q (o :: rest) a W := by
  refine wpListIn_plain hgd fun K hK => ?_
  unfold Oper.wpIn
  refine ⟨by simp [Oper.about, ho], ?_⟩
  rw [Oper.semAt_plain F _ _ (by rw [ho]; intro c hc'; cases hc')]
  unfold execOp
  simp only [ho, hx, Sem.run_bind, Sem.run_pure, Result.andThen_ok, load_rib hg]
  exact hK _ _ h
theorem ev_store_rib_in (hgd : o.guard = none) (hd : o.dst = none) (p x : Operand) (ho : o.op = .store 86 p x) (g : Nat) (hp : a.eval p = .pointer (some ⟨g, 0, none⟩)) (r s : Nat → Bool)
    (hx : a.eval x = .agg (rv s)) (hg : W.heap[g]? = some (.cells (rv r) 86 (0, 0)))
    (h : wpListIn F n Tryd.prog ops Q rest a (W.setRow g (rv s))) : wpListIn F n Tryd.prog ops Q (o :: rest) a W := by
  refine wpListIn_plain hgd fun K hK => ?_
  unfold Oper.wpIn
  refine ⟨by simp [Oper.about, ho], ?_⟩
  rw [Oper.semAt_plain F _ _ (by rw [ho]; intro c hc'; cases hc')]
  unfold execOp
  simp only [ho, hp, hx, Sem.run_bind, Sem.run_pure, Result.andThen_ok, store_rib (s := s) hg]
  show K (a.put o.dst undef) _
  rw [hd]
  exact hK _ _ h
end
end Go.Proofs.YtigofgdmefobaaaDoor.Peel
